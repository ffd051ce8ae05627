/- FnExactAddVote: the pure statement of the law, over the printed functions. No condition beyond the statement's own. -/
import Derived.Test.YtfccmpchpcflkaaSFnExactAddVotex8
import Derived.Test.YtfccmpchpcflkaaLib
import Derived.Test.YtfccmpchpcflkaaOpens
namespace Go.Proofs.Ytfccmpchpcflkaa.Pure
open Go.RowKit Go.Proofs.Ytfccmpchpcflkaa.PFnExactAddVote Go.Proofs.YtfccmpchpcflkaaW.PrintWords Go.Proofs.YtfccmpchpcflkaaW.PrintLast Go.Proofs.Ytfccmpchpcflkaa.Lib Go.Proofs.Ytfccmpchpcflkaa.Opens
set_option linter.unusedVariables false
set_option linter.unusedSimpArgs false
namespace FnExactAddVotePf
theorem szMemberS_eq (l : List S70) (a : Int) (hl : l.length ≤ maxLen) (h0 : 0 ≤ a) (h1 : a ≤ 1048576) : laws_szMemberS.f l a = some (if a - (l.length : Int) < 0 then -1 else a - (l.length : Int)) := by
  have h : wrap64 (a - (l.length : Int)) = a - (l.length : Int) := wrap_id (by unfold maxLen at hl; omega) (by omega)
  simp only [laws_szMemberS.f, h]
  split <;> rfl
theorem szVoteS_eq (l : List S56) (a : Int) (hl : l.length ≤ maxLen) (h0 : 0 ≤ a) (h1 : a ≤ 1048576) : laws_szVoteS.f l a = some (if a - (l.length : Int) < 0 then -1 else a - (l.length : Int)) := by
  have h : wrap64 (a - (l.length : Int)) = a - (l.length : Int) := wrap_id (by unfold maxLen at hl; omega) (by omega)
  simp only [laws_szVoteS.f, h]
  split <;> rfl
def cvMember (x : S70) : S68 := ⟨x.f0, x.f1, x.f2, x.f3⟩
theorem toMemberS_ev (l : List S70) (hl : l.length ≤ 1048576) : Ev (fun k => laws_toMemberS.f k l) (l.map cvMember) := by
  have h := map_loop (fun k out i => laws_toMemberS.l0 k l out i) l cvMember z68 (by omega)
    (fun k out => by simp only [laws_toMemberS.l0]; rw [if_neg (by omega)])
    (fun k out i x hx ho hw => by
      have hi := lt_of_get hx
      have hr : rd_T70 l (i : Int) = x := getD_of z70 hx
      simp only [laws_toMemberS.l0, laws_toMember.f, Option.bind_some, hr, hw]
      rw [if_pos (by omega), if_pos (by omega), if_pos (by omega), Int.toNat_natCast]; rfl)
  refine Ev.congr (fun k => ?_) h
  simp only [laws_toMemberS.f, Int.toNat_natCast]
  rw [if_pos (by omega), if_pos (by omega)]
def cvVote (x : S56) : S59 := ⟨x.f0, x.f1⟩
theorem toVoteS_ev (l : List S56) (hl : l.length ≤ 1048576) : Ev (fun k => laws_toVoteS.f k l) (l.map cvVote) := by
  have h := map_loop (fun k out i => laws_toVoteS.l0 k l out i) l cvVote z59 (by omega)
    (fun k out => by simp only [laws_toVoteS.l0]; rw [if_neg (by omega)])
    (fun k out i x hx ho hw => by
      have hi := lt_of_get hx
      have hr : rd_T56 l (i : Int) = x := getD_of z56 hx
      simp only [laws_toVoteS.l0, laws_toVote.f, Option.bind_some, hr, hw]
      rw [if_pos (by omega), if_pos (by omega), if_pos (by omega), Int.toNat_natCast]; rfl)
  refine Ev.congr (fun k => ?_) h
  simp only [laws_toVoteS.f, Int.toNat_natCast]
  rw [if_pos (by omega), if_pos (by omega)]
theorem eqMember_self (a0 : Int) (a1 : Int) (a2 : Int) (a3 : Bool) : laws_eqMember.f a0 a1 a2 a3 a0 a1 a2 a3 = some true := by
  simp [laws_eqMember.f]
theorem eqMemberS_ev (l : List S68) (hl : l.length ≤ 4611686018427387904) : Ev (fun k => laws_eqMemberS.f k l l) true := by
  have h := count_loop (fun k i => laws_eqMemberS.l0 k l l i) l.length true hl
    (fun k => by simp only [laws_eqMemberS.l0]; rw [if_neg (by omega)])
    (fun k i hi hw => by simp only [laws_eqMemberS.l0, hw]; rw [if_pos (by omega), if_pos (by omega), if_pos (by omega)]; simp only [eqMember_self, Option.bind_some, if_true])
  refine Ev.congr (fun k => ?_) h
  simp only [laws_eqMemberS.f, if_true]
theorem eqVote_self (a0 : Int) (a1 : Int) : laws_eqVote.f a0 a1 a0 a1 = some true := by
  simp [laws_eqVote.f]
theorem eqVoteS_ev (l : List S59) (hl : l.length ≤ 4611686018427387904) : Ev (fun k => laws_eqVoteS.f k l l) true := by
  have h := count_loop (fun k i => laws_eqVoteS.l0 k l l i) l.length true hl
    (fun k => by simp only [laws_eqVoteS.l0]; rw [if_neg (by omega)])
    (fun k i hi hw => by simp only [laws_eqVoteS.l0, hw]; rw [if_pos (by omega), if_pos (by omega), if_pos (by omega)]; simp only [eqVote_self, Option.bind_some, if_true])
  refine Ev.congr (fun k => ?_) h
  simp only [laws_eqVoteS.f, if_true]
def mkMember (m : Int) : S68 := ⟨m, m + 1, m + 2, (Int.tmod (m + 3) 3 == 0)⟩
theorem markMemberS_at (l : List S68) (m0 : Nat) (hm : m0 ≤ 1099511627776) (hl : l.length ≤ 2097152) : Ev (fun k => laws_markMemberS.f k l (m0 : Int)) (((m0 + 4 * l.length : Nat) : Int), marksAt mkMember 4 m0 l.length) := by
  refine mark_loopAt (fun k xs m i => laws_markMemberS.l0 k xs m i) mkMember 4 m0 l.length (by omega) (by omega) l rfl
    (fun k xs m hx => by simp only [laws_markMemberS.l0]; rw [if_neg (by omega)])
    (fun k xs m i hx hi h0 h1 hw => by
      have w1 : wrap64 (m + 1) = m + 1 := wrap_id (by omega) (by omega)
      have w2 : wrap64 (m + 2) = m + 2 := wrap_id (by omega) (by omega)
      have w3 : wrap64 (m + 3) = m + 3 := wrap_id (by omega) (by omega)
      have w4 : wrap64 (m + 4) = m + 4 := wrap_id (by omega) (by omega)
      have e1 : m + 1 + 1 = m + 2 := by omega
      have e2 : m + 2 + 1 = m + 3 := by omega
      have e3 : m + 3 + 1 = m + 4 := by omega
      have hg : ∀ (ys : List S68) (y : S68), ys.length = l.length → rd_T68 (ys.set i y) (i : Int) = y := fun ys y hy => by simp [rd_T68, List.getD_eq_getElem?_getD, hy, hi]
      simp only [laws_markMemberS.l0, Option.bind_some, Int.toNat_natCast, hw]
      rw [if_pos (by omega), if_pos (by omega)]
      simp only [hg _ _ hx, hg _ _ ((List.length_set ..).trans hx), List.set_set, w1, w2, w3, w4, e1, e2, e3]
      rfl)
theorem markMemberS_ev (l : List S68) (hl : l.length ≤ 2097152) : Ev (fun k => laws_markMemberS.f k l 1) (1 + ((4 * l.length : Nat) : Int), marks mkMember 4 l.length) := by
  have h := markMemberS_at l 1 (by omega) hl
  rw [show (((1 + 4 * l.length : Nat) : Int)) = 1 + ((4 * l.length : Nat) : Int) from by omega] at h
  exact h
def mkVote (m : Int) : S59 := ⟨m, m + 1⟩
theorem markVoteS_at (l : List S59) (m0 : Nat) (hm : m0 ≤ 1099511627776) (hl : l.length ≤ 2097152) : Ev (fun k => laws_markVoteS.f k l (m0 : Int)) (((m0 + 2 * l.length : Nat) : Int), marksAt mkVote 2 m0 l.length) := by
  refine mark_loopAt (fun k xs m i => laws_markVoteS.l0 k xs m i) mkVote 2 m0 l.length (by omega) (by omega) l rfl
    (fun k xs m hx => by simp only [laws_markVoteS.l0]; rw [if_neg (by omega)])
    (fun k xs m i hx hi h0 h1 hw => by
      have w1 : wrap64 (m + 1) = m + 1 := wrap_id (by omega) (by omega)
      have w2 : wrap64 (m + 2) = m + 2 := wrap_id (by omega) (by omega)
      have e1 : m + 1 + 1 = m + 2 := by omega
      have hg : ∀ (ys : List S59) (y : S59), ys.length = l.length → rd_T59 (ys.set i y) (i : Int) = y := fun ys y hy => by simp [rd_T59, List.getD_eq_getElem?_getD, hy, hi]
      simp only [laws_markVoteS.l0, Option.bind_some, Int.toNat_natCast, hw]
      rw [if_pos (by omega), if_pos (by omega)]
      simp only [hg _ _ hx, hg _ _ ((List.length_set ..).trans hx), List.set_set, w1, w2, e1]
      rfl)
theorem markVoteS_ev (l : List S59) (hl : l.length ≤ 2097152) : Ev (fun k => laws_markVoteS.f k l 1) (1 + ((2 * l.length : Nat) : Int), marks mkVote 2 l.length) := by
  have h := markVoteS_at l 1 (by omega) hl
  rw [show (((1 + 2 * l.length : Nat) : Int)) = 1 + ((2 * l.length : Nat) : Int) from by omega] at h
  exact h
theorem heldVoteS_ev (n : Nat) (hn : n ≤ 2097152) : Ev (fun k => laws_heldVoteS.f k (marks mkVote 2 n) 1) (1 + ((2 * n : Nat) : Int)) := by
  have hlen : (marks mkVote 2 n).length = n := marks_len ..
  refine held_loop (fun k m i => laws_heldVoteS.l0 k (marks mkVote 2 n) m i) mkVote 2 n (by omega) (by omega)
    (fun k m => by simp only [laws_heldVoteS.l0]; rw [if_neg (by omega)])
    (fun k m i hx hi h0 h1 hw => by
      have hr : rd_T59 (marks mkVote 2 n) (i : Int) = mkVote m := getD_of z59 hx
      have w1 : wrap64 (m + 1) = m + 1 := wrap_id (by omega) (by omega)
      have w2 : wrap64 (m + 2) = m + 2 := wrap_id (by omega) (by omega)
      have e1 : m + 1 + 1 = m + 2 := by omega
      simp only [laws_heldVoteS.l0, hr, hw, w1, w2, e1]
      rw [if_pos (by omega), if_pos (by omega)]
      simp [mkVote])
theorem l1In_eq (a b c : Int) : spec_l1In.f a b c = some (decide (b ≤ a ∧ a ≤ c)) := by
  unfold spec_l1In.f
  by_cases h : a ≥ b
  · rw [if_pos h]; simp [h]
  · rw [if_neg h]; simp [show ¬ (b ≤ a) from by omega]
theorem InRange_eq (a b c : Int) : impl_InRange.f a b c = some (decide (b ≤ a ∧ a ≤ c)) := by
  unfold impl_InRange.f
  by_cases h : b ≤ a
  · rw [if_pos h]; simp [h]
  · rw [if_neg h]; simp [h]
def okMember (l : List S68) (i : Nat) (x : S68) : Prop := (1 ≤ x.f0 ∧ x.f0 ≤ 99) ∧ (0 ≤ x.f1 ∧ x.f1 ≤ 100) ∧ (1 ≤ x.f2 ∧ x.f2 ≤ 10) ∧ (i = 0 ∨ (l.getD (i - 1) z68).f0 < x.f0)
instance (l : List S68) (i : Nat) (x : S68) : Decidable (okMember l i x) := by unfold okMember; infer_instance
def stepAC (l : List S68) : Nat → Unit → S68 → Bool ⊕ Unit := fun i _ x => if okMember l i x then .inr () else .inl false
def mAreCrew (l : List S68) : Bool := run (stepAC l) (fun _ => decide (1 ≤ (l.length : Int) ∧ (l.length : Int) ≤ 8)) 0 () l
theorem specAC_at (l : List S68) (hl : l.length ≤ 4611686018427387904) : ∀ k, l.length < k → spec_AreCrew.f k l = some (mAreCrew l) :=
  at_loop0 (fun k _ i => spec_AreCrew.l0 k l i) l (stepAC l) _ hl ()
    (fun k s => by simp only [spec_AreCrew.l0]; rw [if_neg (by omega)]; simp only [l1In_eq, Option.bind_some])
    (fun k s i x hx hw => by
      have hi := lt_of_get hx
      have hr : rd_T68 l (i : Int) = x := getD_of z68 hx
      simp only [spec_AreCrew.l0, hr, hw, l1In_eq, Option.bind_some, decide_eq_true_eq]; rw [if_pos (by omega), if_pos (by omega)]
      simp only [stepAC]
      by_cases c1 : 1 ≤ x.f0 ∧ x.f0 ≤ 99
      · by_cases c2 : 0 ≤ x.f1 ∧ x.f1 ≤ 100
        · by_cases c3 : 1 ≤ x.f2 ∧ x.f2 ≤ 10
          · rw [if_pos c1, if_pos c2, if_pos c3]
            rcases Nat.eq_zero_or_pos i with h0 | h0
            · subst h0
              rw [if_neg (by omega), if_pos (show okMember l _ x from ⟨c1, c2, c3, .inl rfl⟩)]; rfl
            · have hr' : rd_T68 l ((i - 1 : Nat) : Int) = l.getD (i - 1) z68 := getD_nat ..
              rw [if_pos (by omega), wrapd i h0 (by omega), if_pos (by omega), if_pos (by omega), hr']
              by_cases c4 : (l.getD (i - 1) z68).f0 < x.f0
              · rw [if_neg (by omega), if_pos (show okMember l _ x from ⟨c1, c2, c3, .inr c4⟩)]; rfl
              · rw [if_pos (by omega), if_neg (show ¬ okMember l _ x from fun h => h.2.2.2.elim (by omega) c4)]; rfl
          · rw [if_pos c1, if_pos c2, if_neg c3, if_neg (show ¬ okMember l _ x from fun h => c3 h.2.2.1)]; rfl
        · rw [if_pos c1, if_neg c2, if_neg (show ¬ okMember l _ x from fun h => c2 h.2.1)]; rfl
      · rw [if_neg c1, if_neg (show ¬ okMember l _ x from fun h => c1 h.1)]; rfl)
theorem implAC_at (l : List S68) (hl : l.length ≤ 4611686018427387904) : ∀ k, l.length < k → impl_AreCrew.f k l = some (mAreCrew l) :=
  at_loop0 (fun k _ i => impl_AreCrew.l0 k l l (l.length : Int) i) l (stepAC l) _ hl ()
    (fun k s => by simp only [impl_AreCrew.l0]; rw [if_neg (by omega)]; simp only [InRange_eq, Option.bind_some])
    (fun k s i x hx hw => by
      have hi := lt_of_get hx
      have hr : rd_T68 l (i : Int) = x := getD_of z68 hx
      simp only [impl_AreCrew.l0, hr, hw, InRange_eq, Option.bind_some, decide_eq_true_eq]; rw [if_pos (by omega), if_pos (by omega), if_pos (by omega)]
      simp only [stepAC]
      by_cases c1 : 1 ≤ x.f0 ∧ x.f0 ≤ 99
      · rw [if_pos c1]
        rcases Nat.eq_zero_or_pos i with h0 | h0
        · subst h0
          rw [if_neg (by omega)]
          by_cases c2 : 0 ≤ x.f1 ∧ x.f1 ≤ 100
          · rw [if_pos c2]
            by_cases c3 : 1 ≤ x.f2 ∧ x.f2 ≤ 10
            · rw [if_pos c3, if_pos (show okMember l _ x from ⟨c1, c2, c3, .inl rfl⟩)]; rfl
            · rw [if_neg c3, if_neg (show ¬ okMember l _ x from fun h => c3 h.2.2.1)]; rfl
          · rw [if_neg c2, if_neg (show ¬ okMember l _ x from fun h => c2 h.2.1)]; rfl
        · have hr' : rd_T68 l ((i - 1 : Nat) : Int) = l.getD (i - 1) z68 := getD_nat ..
          rw [if_pos (by omega), wrapd i h0 (by omega), if_pos (by omega), if_pos (by omega), hr']
          by_cases c4 : (l.getD (i - 1) z68).f0 < x.f0
          · rw [if_neg (by omega)]
            by_cases c2 : 0 ≤ x.f1 ∧ x.f1 ≤ 100
            · rw [if_pos c2]
              by_cases c3 : 1 ≤ x.f2 ∧ x.f2 ≤ 10
              · rw [if_pos c3, if_pos (show okMember l _ x from ⟨c1, c2, c3, .inr c4⟩)]; rfl
              · rw [if_neg c3, if_neg (show ¬ okMember l _ x from fun h => c3 h.2.2.1)]; rfl
            · rw [if_neg c2, if_neg (show ¬ okMember l _ x from fun h => c2 h.2.1)]; rfl
          · rw [if_pos (by omega), if_neg (show ¬ okMember l _ x from fun h => h.2.2.2.elim (by omega) c4)]; rfl
      · rw [if_neg c1, if_neg (show ¬ okMember l _ x from fun h => c1 h.1)]; rfl)
/-- What a crew is, member by member. -/
theorem runAC_iff (l0 : List S68) (b : Bool) : ∀ (t d : List S68), l0 = d ++ t → (run (stepAC l0) (fun _ => b) d.length () t = true ↔ (∀ i x, d.length ≤ i → l0[i]? = some x → okMember l0 i x) ∧ b = true)
  | [], d, h => by
    rw [run_nil]
    refine ⟨fun hb => ⟨fun i x hi hx => ?_, hb⟩, fun hb => hb.2⟩
    have := lt_of_get hx
    rw [h] at this
    simp at this
    omega
  | x :: t, d, h => by
    have hx : l0[d.length]? = some x := by rw [h]; simp
    by_cases c : okMember l0 d.length x
    · rw [run_inr (show stepAC l0 d.length () x = .inr () from if_pos c)]
      have ih := runAC_iff l0 b t (d ++ [x]) (by rw [h]; simp)
      rw [List.length_append, List.length_singleton] at ih
      rw [ih]
      refine ⟨fun hb => ⟨fun i y hi hy => ?_, hb.2⟩, fun hb => ⟨fun i y hi hy => hb.1 i y (by omega) hy, hb.2⟩⟩
      rcases Nat.lt_or_ge d.length i with h1 | h1
      · exact hb.1 i y (by omega) hy
      · obtain rfl : i = d.length := by omega
        rw [hx] at hy
        injection hy with hy
        exact hy ▸ c
    · rw [run_inl (show stepAC l0 d.length () x = .inl false from if_neg c)]
      exact ⟨fun hb => (by cases hb), fun hb => absurd (hb.1 d.length x (Nat.le_refl _) hx) c⟩
theorem mAreCrew_iff (l : List S68) : mAreCrew l = true ↔ (∀ i x, l[i]? = some x → okMember l i x) ∧ 1 ≤ l.length ∧ l.length ≤ 8 := by
  have h := runAC_iff l (decide (1 ≤ (l.length : Int) ∧ (l.length : Int) ≤ 8)) l [] rfl
  unfold mAreCrew
  rw [List.length_nil] at h
  rw [h, decide_eq_true_eq]
  exact ⟨fun h => ⟨fun i x hx => h.1 i x (Nat.zero_le _) hx, by omega⟩, fun h => ⟨fun i x _ hx => h.1 i x hx, by omega⟩⟩
theorem crew_member {l : List S68} (h : mAreCrew l = true) {x : S68} (hx : x ∈ l) : (1 ≤ x.f0 ∧ x.f0 ≤ 99) ∧ (0 ≤ x.f1 ∧ x.f1 ≤ 100) ∧ (1 ≤ x.f2 ∧ x.f2 ≤ 10) := by
  obtain ⟨i, hi, he⟩ := List.getElem_of_mem hx
  have := ((mAreCrew_iff l).1 h).1 i x (by rw [List.getElem?_eq_getElem hi, he])
  exact ⟨this.1, this.2.1, this.2.2.1⟩
theorem implPlace_at (l : List Int) (n : Int) (hl : l.length ≤ 4611686018427387904) : ∀ k, l.length < k → impl_placeOf.f k l n = some (place n l) :=
  at_loop0 (fun k _ i => impl_placeOf.l0 k n l (l.length : Int) i) l (stepPlace n) (fun _ => -1) hl ()
    (fun k s => by simp only [impl_placeOf.l0]; rw [if_neg (by omega)])
    (fun k s i x hx hw => by
      have hi := lt_of_get hx
      have hr : rd l (i : Int) = x := getD_of 0 hx
      simp only [impl_placeOf.l0, hr, hw]; rw [if_pos (by omega), if_pos (by omega), if_pos (by omega)]
      simp only [stepPlace]; split <;> rfl)
theorem implHas_at (l : List Int) (n : Int) (hl : l.length ≤ 4611686018427387904) : ∀ k, l.length < k → impl_has.f k l n = some (decide (n ∈ l)) := fun k hk => by
  simp only [impl_has.f, implPlace_at l n hl k hk, Option.bind_some, place_has]
def stepFind (n : Int) : Nat → Unit → S68 → Int ⊕ Unit := fun i _ x => if x.f0 = n then .inl (i : Int) else .inr ()
def mFind (l : List S68) (n : Int) : Int := run (stepFind n) (fun _ => -1) 0 () l
theorem runFind (n : Int) : ∀ (l : List S68) (i : Nat), (n ∈ l.map (·.f0) → (i : Int) ≤ run (stepFind n) (fun _ => -1) i () l) ∧ (n ∉ l.map (·.f0) → run (stepFind n) (fun _ => -1) i () l = -1)
  | [], _ => by simp [run]
  | x :: t, i => by
    by_cases h : x.f0 = n
    · rw [run_inl (show stepFind n i () x = .inl (i : Int) from if_pos h)]
      simp [h]
    · have h' : n ≠ x.f0 := fun e => h e.symm
      rw [run_inr (show stepFind n i () x = .inr () from if_neg h)]
      obtain ⟨h1, h2⟩ := runFind n t (i + 1)
      rw [List.map_cons]
      refine ⟨fun hm => ?_, fun hm => h2 (fun hm' => hm (List.mem_cons_of_mem _ hm'))⟩
      have := h1 ((List.mem_cons.1 hm).resolve_left h')
      omega
theorem mFind_neg (l : List S68) (n : Int) : mFind l n < 0 ↔ n ∉ l.map (·.f0) := by
  obtain ⟨h1, h2⟩ := runFind n l 0
  unfold mFind
  refine ⟨fun h hm => ?_, fun h => by rw [h2 h]; decide⟩
  have := h1 hm
  omega
theorem specFind_at (l : List S68) (n : Int) (hl : l.length ≤ 1048577) : ∀ k, l.length < k → spec_l16Find.f k l n = some (mFind l n) :=
  at_loop0 (fun k _ i => spec_l16Find.l0 k l n i) l (stepFind n) (fun _ => -1) (by omega) ()
    (fun k s => by simp only [spec_l16Find.l0]; rw [if_neg (by omega)])
    (fun k s i x hx hw => by
      have hi := lt_of_get hx
      have hr : rd_T68 l (i : Int) = x := getD_of z68 hx
      simp only [spec_l16Find.l0, hr, hw]; rw [if_pos (by omega), if_pos (by omega)]
      simp only [stepFind]; split <;> rfl)
theorem implFind_at (l : List S68) (n : Int) (hl : l.length ≤ 1048577) : ∀ k, l.length < k → impl_memberOf.f k l n = some (mFind l n) :=
  at_loop0 (fun k _ i => impl_memberOf.l0 k n l (l.length : Int) i) l (stepFind n) (fun _ => -1) (by omega) ()
    (fun k s => by simp only [impl_memberOf.l0]; rw [if_neg (by omega)])
    (fun k s i x hx hw => by
      have hi := lt_of_get hx
      have hr : rd_T68 l (i : Int) = x := getD_of z68 hx
      simp only [impl_memberOf.l0, hr, hw]; rw [if_pos (by omega), if_pos (by omega), if_pos (by omega)]
      simp only [stepFind]; split <;> rfl)
def okVote (l : List S68) (s : List Int) (x : S59) : Prop := x.f0 ∈ l.map (·.f0) ∧ x.f0 ∉ s ∧ (0 ≤ x.f1 ∧ x.f1 ≤ 9)
instance (l : List S68) (s : List Int) (x : S59) : Decidable (okVote l s x) := by unfold okVote; infer_instance
def stepAV (l : List S68) : Nat → List Int → S59 → Bool ⊕ List Int := fun _ s x => if okVote l s x then .inr (s ++ [x.f0]) else .inl false
def mAreVotes (l : List S68) (v : List S59) : Bool := run (stepAV l) (fun _ => mAreCrew l) 0 [] v
theorem implAV_at (l : List S68) (v : List S59) (hl : l.length ≤ 1048576) (hv : v.length ≤ 1048577) : ∀ k, v.length + (l.length + v.length + 1) < k → impl_AreVotes.f k l v = some (mAreVotes l v) :=
  at_loopI (fun k s i => impl_AreVotes.l0 k l s v (v.length : Int) i) v (stepAV l) (fun _ => mAreCrew l) (fun i s => s.length ≤ i) (by omega) [] (by simp) (l.length + v.length + 1)
    (fun k s hk _ => by simp only [impl_AreVotes.l0]; rw [if_neg (by omega), implAC_at l (by omega) k (by omega)]; rfl)
    (fun s i x s' hI _ he => by
      simp only [stepAV] at he
      split at he
      · injection he with he
        subst he
        simp; omega
      · cases he)
    (fun k s i x hk hI hx hw => by
      have hi := lt_of_get hx
      have hr : rd_T59 v (i : Int) = x := getD_of z59 hx
      simp only [impl_AreVotes.l0, hr, hw]; rw [if_pos (by omega), if_pos (by omega), if_pos (by omega)]
      simp only [implFind_at l x.f0 (by omega) k (by omega), implHas_at s x.f0 (by omega) k (by omega), InRange_eq, Option.bind_some, decide_eq_true_eq, stepAV]
      by_cases c1 : x.f0 ∈ l.map (·.f0)
      · rw [if_neg (fun h => (mFind_neg l x.f0).1 h c1)]
        by_cases c2 : x.f0 ∈ s
        · rw [if_pos c2, if_neg (show ¬ okVote l s x from fun h => h.2.1 c2)]; rfl
        · rw [if_neg c2]
          by_cases c3 : 0 ≤ x.f1 ∧ x.f1 ≤ 9
          · rw [if_pos c3, if_pos (show s.length < 17592186044416 by omega), if_pos (show okVote l s x from ⟨c1, c2, c3⟩)]; rfl
          · rw [if_neg c3, if_neg (show ¬ okVote l s x from fun h => c3 h.2.2)]; rfl
      · rw [if_pos ((mFind_neg l x.f0).2 c1), if_neg (show ¬ okVote l s x from fun h => c1 h.1)]; rfl)
/-- The inner loop of the reference: is one of the votes before by the same one? -/
theorem specAV_in (l : List S68) (v : List S59) (hv : v.length ≤ 1048577) (i : Nat) (x : S59) (hx : v[i]? = some x) (r : Bool) (hr : Ev (fun k => spec_AreVotes.l0 k l v ((i : Int) + 1)) r) :
    ∀ (d j : Nat), j + d = i → Ev (fun k => spec_AreVotes.l1 k l v (i : Int) (j : Int)) (if x.f0 ∈ ((v.take i).drop j).map (·.f0) then false else r)
  | 0, j, hj => by
    have hi := lt_of_get hx
    refine Ev.step (f := fun k => spec_AreVotes.l0 k l v ((i : Int) + 1)) (fun k => ?_) ?_
    · simp only [spec_AreVotes.l1, wrapi i (by omega)]
      rw [if_neg (by omega)]
    · rw [List.drop_eq_nil_of_le (by simp; omega)]
      simpa using hr
  | d + 1, j, hj => by
    have hi := lt_of_get hx
    have hj' : v[j]? = some v[j] := List.getElem?_eq_getElem (by omega)
    have e1 : rd_T59 v (i : Int) = x := getD_of z59 hx
    have e2 : rd_T59 v (j : Int) = v[j] := getD_of z59 hj'
    have e3 : (v.take i).drop j = v[j] :: (v.take i).drop (j + 1) := by
      rw [List.drop_eq_getElem_cons (by simp; omega)]
      simp
    have ih := specAV_in l v hv i x hx r hr d (j + 1) (by omega)
    rw [show ((j + 1 : Nat) : Int) = (j : Int) + 1 from by omega] at ih
    rw [e3, List.map_cons]
    by_cases c : v[j].f0 = x.f0
    · rw [if_pos (by simp [c])]
      refine Ev.step (f := fun k => some false) (fun k => ?_) (Ev.now _)
      simp only [spec_AreVotes.l1, e1, e2]
      rw [if_pos (by omega), if_pos (by omega), if_pos (by omega), if_pos (by omega), if_pos (by omega), if_pos c]
    · have c' : ¬ x.f0 = v[j].f0 := fun h => c h.symm
      simp only [List.mem_cons, c', false_or]
      refine Ev.step (fun k => ?_) ih
      simp only [spec_AreVotes.l1, e1, e2, wrapi j (by omega)]
      rw [if_pos (by omega), if_pos (by omega), if_pos (by omega), if_pos (by omega), if_pos (by omega), if_neg c]
theorem specAV_down (l : List S68) (v : List S59) (hl : l.length ≤ 1048576) (hv : v.length ≤ 1048577) : ∀ (t d : List S59), v = d ++ t → Ev (fun k => spec_AreVotes.l0 k l v (d.length : Int)) (run (stepAV l) (fun _ => mAreCrew l) d.length (d.map (·.f0)) t)
  | [], d, h => by
    have hlen : v.length = d.length := by rw [h]; simp
    refine Ev.step (f := fun k => (spec_AreCrew.f k l).bind fun t143 => some t143) (fun k => ?_) (Ev.bind (ev_at (specAC_at l (by omega))) (Ev.now _))
    simp only [spec_AreVotes.l0]
    rw [if_neg (by omega)]
  | x :: t, d, h => by
    have hlen : v.length = d.length + (t.length + 1) := by rw [h]; simp
    have hx : v[d.length]? = some x := by rw [h]; simp
    have hr : rd_T59 v (d.length : Int) = x := getD_of z59 hx
    have htk : v.take d.length = d := by rw [h]; simp
    have ih := specAV_down l v hl hv t (d ++ [x]) (by rw [h]; simp)
    rw [List.length_append, List.length_singleton, show ((d.length + 1 : Nat) : Int) = (d.length : Int) + 1 from by omega, List.map_append] at ih
    have hin := specAV_in l v hv d.length x hx _ ih d.length 0 (by omega)
    rw [htk, List.drop_zero] at hin
    refine Ev.step (f := fun k => (spec_l16Find.f k l x.f0).bind fun t145 => if t145 < 0 then spec_AreVotes.j1 k l v (d.length : Int) true else (spec_l1In.f x.f1 0 9).bind fun t147 => spec_AreVotes.j1 k l v (d.length : Int) (!t147)) (fun k => ?_) ?_
    · simp only [spec_AreVotes.l0, hr]
      rw [if_pos (by omega), if_pos (by omega)]
    · refine Ev.bind (ev_at (specFind_at l x.f0 (by omega))) ?_
      have hbad : Ev (fun k => spec_AreVotes.j1 k l v (d.length : Int) true) false := Ev.step (f := fun _ => some false) (fun k => by simp [spec_AreVotes.j1]) (Ev.now _)
      by_cases c1 : x.f0 ∈ l.map (·.f0)
      · simp only [if_neg (fun h => (mFind_neg l x.f0).1 h c1), l1In_eq, Option.bind_some]
        by_cases c3 : 0 ≤ x.f1 ∧ x.f1 ≤ 9
        · simp only [decide_eq_true c3, Bool.not_true]
          refine Ev.step (f := fun k => spec_AreVotes.l1 k l v (d.length : Int) 0) (fun k => by simp [spec_AreVotes.j1]) ?_
          by_cases c2 : x.f0 ∈ d.map (·.f0)
          · rw [if_pos c2] at hin
            rw [run_inl (show stepAV l d.length (d.map (·.f0)) x = .inl false from if_neg (fun h => h.2.1 c2))]
            exact hin
          · rw [if_neg c2] at hin
            rw [run_inr (show stepAV l d.length (d.map (·.f0)) x = .inr (d.map (·.f0) ++ [x.f0]) from if_pos ⟨c1, c2, c3⟩)]
            exact hin
        · simp only [decide_eq_false c3, Bool.not_false]
          rw [run_inl (show stepAV l d.length (d.map (·.f0)) x = .inl false from if_neg (fun h => c3 h.2.2))]
          exact hbad
      · simp only [if_pos ((mFind_neg l x.f0).2 c1)]
        rw [run_inl (show stepAV l d.length (d.map (·.f0)) x = .inl false from if_neg (fun h => c1 h.1))]
        exact hbad
theorem specAV_ev (l : List S68) (v : List S59) (hl : l.length ≤ 1048576) (hv : v.length ≤ 1048577) : Ev (fun k => spec_AreVotes.f k l v) (mAreVotes l v) := specAV_down l v hl hv v [] rfl
theorem implAV_ev (l : List S68) (v : List S59) (hl : l.length ≤ 1048576) (hv : v.length ≤ 1048577) : Ev (fun k => impl_AreVotes.f k l v) (mAreVotes l v) := ev_at (implAV_at l v hl hv)
def addRep (v : S59) : List S59 → List S59 × Bool
  | [] => ([], false)
  | x :: t => if x.f0 = v.f0 then (v :: t, true) else (x :: (addRep v t).1, (addRep v t).2)
theorem addRep_len (v : S59) : ∀ l, (addRep v l).1.length = l.length
  | [] => rfl
  | x :: t => by
    simp only [addRep]
    split
    · rfl
    · simp [addRep_len v t]
def finAV (c : List S68) (l : List S59) (v : S59) (s : List S59 × Bool) : List S59 × Bool :=
  if s.2 = true then (if mAreVotes c s.1 = true then (s.1, true) else (l, false)) else (if mAreVotes c (s.1 ++ [v]) = true then (s.1 ++ [v], true) else (l, false))
def mAddVote (c : List S68) (l : List S59) (v : S59) : List S59 × Bool := finAV c l v (addRep v l)
theorem mAddVote_len (c : List S68) (l : List S59) (v : S59) : (mAddVote c l v).1.length ≤ l.length + 1 := by
  have := addRep_len v l
  simp only [mAddVote, finAV]
  split
  · split <;> simp <;> omega
  · split <;> simp <;> omega
theorem specAdd_end (c : List S68) (l : List S59) (a b : Int) (hc : c.length ≤ 1048576) (hl : l.length ≤ 1048576) (xs : List S59) (d : Bool) (hx : xs.length = l.length) : Ev (fun k => spec_AddVote.l0 k c l xs d (xs.length : Int) a b) (finAV c l ⟨a, b⟩ (xs, d)) := by
  have h3 : ([] : List S59).length + l.length < 8796093022208 := by simp; omega
  have h4 : xs.length < 8796093022208 := by omega
  have h5 : (xs ++ [(⟨a, b⟩ : S59)]).length ≤ 1048577 := by simp; omega
  refine Ev.step (f := fun k => if d = true then ((spec_AreVotes.f k c xs).bind fun t159 => (if t159 = true then (some (xs, true)) else ((some (([] : List (S59)) : List (S59))).bind fun y160 => (if y160.length + l.length < 8796093022208 then (some ((y160 ++ l), false)) else (none))))) else (if xs.length < 8796093022208 then ((some (xs ++ [(⟨a, b⟩ : S59)] : List (S59))).bind fun y166 => ((spec_AreVotes.f k c y166).bind fun t169 => (if t169 = true then (some (y166, true)) else ((some (([] : List (S59)) : List (S59))).bind fun y170 => (if y170.length + l.length < 8796093022208 then (some ((y170 ++ l), false)) else (none)))))) else (none))) (fun k => by simp only [spec_AddVote.l0]; rw [if_neg (by omega)]) ?_
  cases d with
  | true =>
    simp only [if_true, h3, Option.bind_some, List.nil_append, finAV]
    refine Ev.bind (specAV_ev c xs hc (by omega)) ?_
    cases mAreVotes c xs <;> exact Ev.now _
  | false =>
    simp only [Bool.false_eq_true, if_false, if_true, h3, h4, Option.bind_some, List.nil_append, finAV]
    refine Ev.bind (specAV_ev c _ hc h5) ?_
    cases mAreVotes c (xs ++ [⟨a, b⟩]) <;> exact Ev.now _
theorem specAdd_done (c : List S68) (l : List S59) (a b : Int) (hc : c.length ≤ 1048576) (hl : l.length ≤ 1048576) (xs : List S59) (hx : xs.length = l.length) : ∀ (n i : Nat), i + n = xs.length → Ev (fun k => spec_AddVote.l0 k c l xs true (i : Int) a b) (finAV c l ⟨a, b⟩ (xs, true))
  | 0, i, h => by
    obtain rfl : i = xs.length := by omega
    exact specAdd_end c l a b hc hl xs true hx
  | n + 1, i, h => by
    have ih := specAdd_done c l a b hc hl xs hx n (i + 1) (by omega)
    refine Ev.step (f := fun k => spec_AddVote.l0 k c l xs true ((i + 1 : Nat) : Int) a b) (fun k => ?_) ih
    simp only [spec_AddVote.l0, wrapi i (by omega), if_true]
    rw [if_pos (by omega), if_pos (by omega), Int.natCast_add, Int.natCast_one]
    split <;> rfl
theorem specAdd_down (c : List S68) (l : List S59) (a b : Int) (hc : c.length ≤ 1048576) (hl : l.length ≤ 1048576) : ∀ (t d : List S59), (d ++ t).length = l.length → Ev (fun k => spec_AddVote.l0 k c l (d ++ t) false (d.length : Int) a b) (finAV c l ⟨a, b⟩ (d ++ (addRep ⟨a, b⟩ t).1, (addRep ⟨a, b⟩ t).2))
  | [], d, h => by
    simp only [List.append_nil, addRep] at h ⊢
    exact specAdd_end c l a b hc hl d false h
  | x :: t, d, h => by
    have hlen : d.length + (t.length + 1) = l.length := by simpa using h
    have hr : rd_T59 (d ++ x :: t) (d.length : Int) = x := getD_of z59 (by simp)
    by_cases e : x.f0 = a
    · refine Ev.step (f := fun k => spec_AddVote.l0 k c l (d ++ ⟨a, b⟩ :: t) true ((d.length + 1 : Nat) : Int) a b) (fun k => ?_) ?_
      · simp only [spec_AddVote.l0, wrapi d.length (by omega), hr, if_pos e, Bool.false_eq_true, if_false, Int.toNat_natCast, set_append _ _ _ _ _ rfl]
        rw [if_pos (by simp; omega), if_pos (by omega)]
        simp
      · simp only [addRep, if_pos e]
        exact specAdd_done c l a b hc hl _ (by simpa using h) t.length (d.length + 1) (by simp; omega)
    · have ih := specAdd_down c l a b hc hl t (d ++ [x]) (by simpa using h)
      simp only [List.append_assoc, List.singleton_append, List.length_append, List.length_singleton] at ih
      refine Ev.step (f := fun k => spec_AddVote.l0 k c l (d ++ x :: t) false ((d.length + 1 : Nat) : Int) a b) (fun k => ?_) ?_
      · simp only [spec_AddVote.l0, wrapi d.length (by omega), hr, if_neg e]
        rw [if_pos (by simp; omega), if_pos (by omega)]
        simp
      · simp only [addRep, if_neg e]
        exact ih
theorem specAdd_ev (c : List S68) (l : List S59) (a b : Int) (hc : c.length ≤ 1048576) (hl : l.length ≤ 1048576) : Ev (fun k => spec_AddVote.f k c l a b) (mAddVote c l ⟨a, b⟩) := by
  have h3 : ([] : List S59).length + l.length < 8796093022208 := by simp; omega
  simp only [spec_AddVote.f, Option.bind_some, h3, if_true, List.nil_append]
  exact specAdd_down c l a b hc hl l [] rfl
theorem implAdd_end (c : List S68) (l : List S59) (a b : Int) (hc : c.length ≤ 1048576) (hl : l.length ≤ 1048576) (xs : List S59) (d : Bool) (hx : xs.length = l.length) : Ev (fun k => impl_AddVote.l0 k c l xs d (l.length : Int) (l.length : Int) a b) (finAV c l ⟨a, b⟩ (xs, d)) := by
  have h3 : ([] : List S59).length + l.length < 8796093022208 := by simp; omega
  have h4 : xs.length < 8796093022208 := by omega
  have h5 : (xs ++ [(⟨a, b⟩ : S59)]).length ≤ 1048577 := by simp; omega
  refine Ev.step (f := fun k => if d = true then ((impl_AreVotes.f k c xs).bind fun t159 => (if t159 = true then (some (xs, true)) else ((some (([] : List (S59)) : List (S59))).bind fun y160 => (if y160.length + l.length < 8796093022208 then (some ((y160 ++ l), false)) else (none))))) else (if xs.length < 8796093022208 then ((some (xs ++ [(⟨a, b⟩ : S59)] : List (S59))).bind fun y166 => ((impl_AreVotes.f k c y166).bind fun t169 => (if t169 = true then (some (y166, true)) else ((some (([] : List (S59)) : List (S59))).bind fun y170 => (if y170.length + l.length < 8796093022208 then (some ((y170 ++ l), false)) else (none)))))) else (none))) (fun k => by simp only [impl_AddVote.l0]; rw [if_neg (by omega)]) ?_
  cases d with
  | true =>
    simp only [if_true, h3, Option.bind_some, List.nil_append, finAV]
    refine Ev.bind (implAV_ev c xs hc (by omega)) ?_
    cases mAreVotes c xs <;> exact Ev.now _
  | false =>
    simp only [Bool.false_eq_true, if_false, if_true, h3, h4, Option.bind_some, List.nil_append, finAV]
    refine Ev.bind (implAV_ev c _ hc h5) ?_
    cases mAreVotes c (xs ++ [⟨a, b⟩]) <;> exact Ev.now _
theorem implAdd_done (c : List S68) (l : List S59) (a b : Int) (hc : c.length ≤ 1048576) (hl : l.length ≤ 1048576) (xs : List S59) (hx : xs.length = l.length) : ∀ (n i : Nat), i + n = l.length → Ev (fun k => impl_AddVote.l0 k c l xs true (l.length : Int) (i : Int) a b) (finAV c l ⟨a, b⟩ (xs, true))
  | 0, i, h => by
    obtain rfl : i = l.length := by omega
    exact implAdd_end c l a b hc hl xs true hx
  | n + 1, i, h => by
    have ih := implAdd_done c l a b hc hl xs hx n (i + 1) (by omega)
    refine Ev.step (f := fun k => impl_AddVote.l0 k c l xs true (l.length : Int) ((i + 1 : Nat) : Int) a b) (fun k => ?_) ih
    simp only [impl_AddVote.l0, wrapi i (by omega), if_true]
    rw [if_pos (by omega), Int.natCast_add, Int.natCast_one]
theorem implAdd_down (c : List S68) (l : List S59) (a b : Int) (hc : c.length ≤ 1048576) (hl : l.length ≤ 1048576) : ∀ (t d : List S59), (d ++ t).length = l.length → Ev (fun k => impl_AddVote.l0 k c l (d ++ t) false (l.length : Int) (d.length : Int) a b) (finAV c l ⟨a, b⟩ (d ++ (addRep ⟨a, b⟩ t).1, (addRep ⟨a, b⟩ t).2))
  | [], d, h => by
    simp only [List.append_nil, addRep] at h ⊢
    have h' := implAdd_end c l a b hc hl d false h
    rw [show (l.length : Int) = (d.length : Int) from by omega] at h' ⊢
    exact h'
  | x :: t, d, h => by
    have hlen : d.length + (t.length + 1) = l.length := by simpa using h
    have hr : rd_T59 (d ++ x :: t) (d.length : Int) = x := getD_of z59 (by simp)
    by_cases e : x.f0 = a
    · refine Ev.step (f := fun k => impl_AddVote.l0 k c l (d ++ ⟨a, b⟩ :: t) true (l.length : Int) ((d.length + 1 : Nat) : Int) a b) (fun k => ?_) ?_
      · simp only [impl_AddVote.l0, wrapi d.length (by omega), hr, if_pos e, Bool.false_eq_true, if_false, Int.toNat_natCast, set_append _ _ _ _ _ rfl]
        rw [if_pos (by omega), if_pos (by omega), if_pos (by simp; omega)]
        simp
      · simp only [addRep, if_pos e]
        exact implAdd_done c l a b hc hl _ (by simpa using h) t.length (d.length + 1) (by omega)
    · have ih := implAdd_down c l a b hc hl t (d ++ [x]) (by simpa using h)
      simp only [List.append_assoc, List.singleton_append, List.length_append, List.length_singleton] at ih
      refine Ev.step (f := fun k => impl_AddVote.l0 k c l (d ++ x :: t) false (l.length : Int) ((d.length + 1 : Nat) : Int) a b) (fun k => ?_) ?_
      · simp only [impl_AddVote.l0, wrapi d.length (by omega), hr, if_neg e, Bool.false_eq_true, if_false]
        rw [if_pos (by omega), if_pos (by omega), if_pos (by simp; omega)]
        simp
      · simp only [addRep, if_neg e]
        exact ih
theorem implAdd_ev (c : List S68) (l : List S59) (a b : Int) (hc : c.length ≤ 1048576) (hl : l.length ≤ 1048576) : Ev (fun k => impl_AddVote.f k c l a b) (mAddVote c l ⟨a, b⟩) := by
  have h3 : ([] : List S59).length + l.length < 8796093022208 := by simp; omega
  simp only [impl_AddVote.f, Option.bind_some, h3, if_true, List.nil_append]
  exact implAdd_down c l a b hc hl l [] rfl
theorem addVote_j2 (n : Nat) (hn : n ≤ 2097152) : Ev (fun k => laws_FnExactAddVote.j2 k (marks mkVote 2 n) (1 + ((2 * n : Nat) : Int)) false) true := by
  refine Ev.step (f := fun k => (laws_heldVoteS.f k (marks mkVote 2 n) 1).bind fun t233 => if t233 < 0 then some false else if t233 = 1 + ((2 * n : Nat) : Int) then some true else some false) (fun k => by simp only [laws_FnExactAddVote.j2, Bool.false_eq_true, if_false]) ?_
  refine Ev.bind (heldVoteS_ev n hn) ?_
  have q1 : ¬ (1 + ((2 * n : Nat) : Int) < 0) := by omega
  simp only [q1, if_true, if_false]
  exact Ev.now _
theorem addVote_j1 (l0 : List S70) (l1 : List S56) (a b : Int) (hl : l0.length ≤ 1048576) (hl1 : l1.length ≤ 1048576) (r : List S59 × Bool) (hr : r = mAddVote (l0.map cvMember) (l1.map cvVote) ⟨a, b⟩) : Ev (fun k => laws_FnExactAddVote.j1 k l0 l1 r.1 r.2 r.1 false a b) true := by
  have hlen : (l0.map cvMember).length = l0.length := List.length_map ..
  have hlen1 : (l1.map cvVote).length = l1.length := List.length_map ..
  have hn : r.1.length ≤ 2097152 := by rw [hr]; have := mAddVote_len (l0.map cvMember) (l1.map cvVote) ⟨a, b⟩; omega
  refine Ev.step (f := fun k => (laws_markVoteS.f k r.1 1).bind fun bt276 => ((laws_heldVoteS.f k bt276.2 1).bind fun t278 => (if t278 < 0 then (some false) else (if t278 = bt276.1 then ((laws_toMemberS.f k l0).bind fun t279 => ((laws_toVoteS.f k l1).bind fun t282 => ((laws_toVote.f a b).bind fun bt285 => ((impl_AddVote.f k t279 t282 bt285.1 bt285.2).bind fun bt287 => ((laws_eqVoteS.f k bt287.1 r.1).bind fun t291 => (if t291 = true then (laws_FnExactAddVote.j2 k bt276.2 bt276.1 (bt287.2 != r.2)) else (laws_FnExactAddVote.j2 k bt276.2 bt276.1 true))))))) else (some false))))) (fun k => by simp only [laws_FnExactAddVote.j1, Bool.false_eq_true, if_false]) ?_
  refine Ev.bind (markVoteS_ev r.1 (by omega)) ?_
  refine Ev.bind (heldVoteS_ev r.1.length (by omega)) ?_
  have q1 : ¬ (1 + ((2 * r.1.length : Nat) : Int) < 0) := by omega
  simp only [q1, if_true, if_false]
  refine Ev.bind (toMemberS_ev l0 (by omega)) ?_
  refine Ev.bind (toVoteS_ev l1 (by omega)) ?_
  simp only [laws_toVote.f, Option.bind_some]
  refine Ev.bind (implAdd_ev _ _ a b (by omega) (by omega)) ?_
  rw [← hr]
  refine Ev.bind (eqVoteS_ev _ (by omega)) ?_
  simp only [if_true, bne_self_eq_false]
  exact addVote_j2 _ (by omega)
theorem addVote_j0 (l0 : List S70) (l1 : List S56) (a b : Int) (hl : l0.length ≤ 1048576) (hl1 : l1.length ≤ 1048576) (r : List S59 × Bool) (hr : r = mAddVote (l0.map cvMember) (l1.map cvVote) ⟨a, b⟩) : Ev (fun k => laws_FnExactAddVote.j0 k l0 l1 r.1 r.2 (l0.map cvMember) (l1.map cvVote) r.1 r.2 false a b) true := by
  have hlen : (l0.map cvMember).length = l0.length := List.length_map ..
  have hlen1 : (l1.map cvVote).length = l1.length := List.length_map ..
  have hn : r.1.length ≤ 2097152 := by rw [hr]; have := mAddVote_len (l0.map cvMember) (l1.map cvVote) ⟨a, b⟩; omega
  refine Ev.step (f := fun k => (laws_toMemberS.f k l0).bind fun t263 => ((laws_eqMemberS.f k (l0.map cvMember) t263).bind fun t266 => (if t266 = true then ((laws_toVoteS.f k l1).bind fun t267 => ((laws_eqVoteS.f k (l1.map cvVote) t267).bind fun t270 => (if t270 = true then ((laws_markMemberS.f k (l0.map cvMember) 1).bind fun bt271 => ((laws_markVoteS.f k (l1.map cvVote) bt271.1).bind fun bt273 => (if bt273.1 < 0 then (laws_FnExactAddVote.j1 k l0 l1 r.1 r.2 r.1 true a b) else ((laws_eqVoteS.f k r.1 r.1).bind fun t275 => (if t275 = true then (laws_FnExactAddVote.j1 k l0 l1 r.1 r.2 r.1 (r.2 != r.2) a b) else (laws_FnExactAddVote.j1 k l0 l1 r.1 r.2 r.1 true a b)))))) else (some false)))) else (some false)))) (fun k => by simp only [laws_FnExactAddVote.j0, Bool.false_eq_true, if_false]) ?_
  refine Ev.bind (toMemberS_ev l0 (by omega)) ?_
  refine Ev.bind (eqMemberS_ev _ (by omega)) ?_
  simp only [if_true]
  refine Ev.bind (toVoteS_ev l1 (by omega)) ?_
  refine Ev.bind (eqVoteS_ev _ (by omega)) ?_
  simp only [if_true]
  refine Ev.bind (markMemberS_ev _ (by omega)) ?_
  have hm := markVoteS_at (l1.map cvVote) (1 + 4 * (l0.map cvMember).length) (by omega) (by omega)
  rw [show (((1 + 4 * (l0.map cvMember).length : Nat)) : Int) = 1 + ((4 * (l0.map cvMember).length : Nat) : Int) from by omega] at hm
  refine Ev.bind hm ?_
  have q1 : ¬ (((1 + 4 * (l0.map cvMember).length + 2 * (l1.map cvVote).length : Nat) : Int) < 0) := by omega
  simp only [q1, if_false]
  refine Ev.bind (eqVoteS_ev _ (by omega)) ?_
  simp only [if_true, bne_self_eq_false]
  exact addVote_j1 l0 l1 a b hl hl1 r hr
end FnExactAddVotePf
open FnExactAddVotePf
theorem FnExactAddVote : ∀ (l0 : List S70) (l1 : List S56) (a2_0 : Int) (a2_1 : Int), l0.length ≤ maxLen → (∀ y ∈ l0, (I64 y.f0 ∧ I64 y.f1 ∧ I64 y.f2 ∧ True)) → l1.length ≤ maxLen → (∀ y ∈ l1, (I64 y.f0 ∧ I64 y.f1)) → I64 a2_0 → I64 a2_1 → ∃ k, laws_FnExactAddVote.f k l0 l1 a2_0 a2_1 = some true := by
  intro l0 l1 a b hl _ hl1 _ _ _
  apply Ev.rounds (g := fun k => laws_FnExactAddVote.f k l0 l1 a b)
  unfold laws_FnExactAddVote.f
  simp only [szMemberS_eq l0 1048576 hl (by omega) (by omega), Option.bind_some]
  by_cases h : (1048576 : Int) - (l0.length : Int) < 0
  · simp only [if_pos h]; exact Ev.now _
  · simp only [if_neg h]
    simp only [szVoteS_eq l1 (1048576 - (l0.length : Int)) hl1 (by omega) (by omega), Option.bind_some]
    by_cases h' : (1048576 : Int) - (l0.length : Int) - (l1.length : Int) < 0
    · simp only [if_pos h']; exact Ev.now _
    · simp only [if_neg h']
      have hlen : (l0.map cvMember).length = l0.length := List.length_map ..
      have hlen1 : (l1.map cvVote).length = l1.length := List.length_map ..
      have hm := mAddVote_len (l0.map cvMember) (l1.map cvVote) ⟨a, b⟩
      refine Ev.bind (toMemberS_ev l0 (by omega)) ?_
      refine Ev.bind (toVoteS_ev l1 (by omega)) ?_
      simp only [laws_toVote.f, Option.bind_some]
      refine Ev.bind (specAdd_ev _ _ a b (by omega) (by omega)) ?_
      refine Ev.bind (toMemberS_ev l0 (by omega)) ?_
      refine Ev.bind (toVoteS_ev l1 (by omega)) ?_
      refine Ev.bind (implAdd_ev _ _ a b (by omega) (by omega)) ?_
      refine Ev.bind (eqVoteS_ev _ (by omega)) ?_
      simp only [if_true, bne_self_eq_false]
      exact addVote_j0 l0 l1 a b (by omega) (by omega) _ rfl
end Go.Proofs.Ytfccmpchpcflkaa.Pure
