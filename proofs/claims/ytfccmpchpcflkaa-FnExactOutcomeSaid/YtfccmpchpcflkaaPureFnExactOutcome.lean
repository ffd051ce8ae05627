/- FnExactOutcome: the pure statement of the law, over the printed functions. No condition beyond the statement's own. -/
import Derived.Test.YtfccmpchpcflkaaSFnExactOutcomex8
import Derived.Test.YtfccmpchpcflkaaLib
import Derived.Test.YtfccmpchpcflkaaOpens
namespace Go.Proofs.Ytfccmpchpcflkaa.Pure
open Go.RowKit Go.Proofs.Ytfccmpchpcflkaa.PFnExactOutcome Go.Proofs.YtfccmpchpcflkaaW.PrintWords Go.Proofs.YtfccmpchpcflkaaW.PrintLast Go.Proofs.Ytfccmpchpcflkaa.Lib Go.Proofs.Ytfccmpchpcflkaa.Opens
set_option linter.unusedVariables false
set_option linter.unusedSimpArgs false
namespace FnExactOutcomePf
theorem szMemberS_eq (l : List S70) (a : Int) (hl : l.length ≤ maxLen) (h0 : 0 ≤ a) (h1 : a ≤ 1048576) : laws_szMemberS.f l a = some (if a - (l.length : Int) < 0 then -1 else a - (l.length : Int)) := by
  have h : wrap64 (a - (l.length : Int)) = a - (l.length : Int) := wrap_id (by unfold maxLen at hl; omega) (by omega)
  simp only [laws_szMemberS.f, h]
  split <;> rfl
theorem szVoteS_eq (l : List S56) (a : Int) (hl : l.length ≤ maxLen) (h0 : 0 ≤ a) (h1 : a ≤ 1048576) : laws_szVoteS.f l a = some (if a - (l.length : Int) < 0 then -1 else a - (l.length : Int)) := by
  have h : wrap64 (a - (l.length : Int)) = a - (l.length : Int) := wrap_id (by unfold maxLen at hl; omega) (by omega)
  simp only [laws_szVoteS.f, h]
  split <;> rfl
def cvMember (x : S70) : S68 := ⟨x.f0, x.f1, x.f2, x.f3⟩
theorem toMemberS_ev (l : List S70) (hl : l.length ≤ 1048576) : Ev (fun k => laws_toMemberS.f k l) (l.map cvMember) := by
  have h := map_loop (fun k out i => laws_toMemberS.l0 k l out i) l cvMember z68 (by omega)
    (fun k out => by simp only [laws_toMemberS.l0]; rw [if_neg (by omega)])
    (fun k out i x hx ho hw => by
      have hi := lt_of_get hx
      have hr : rd_T70 l (i : Int) = x := getD_of z70 hx
      simp only [laws_toMemberS.l0, laws_toMember.f, Option.bind_some, hr, hw]
      rw [if_pos (by omega), if_pos (by omega), if_pos (by omega), Int.toNat_natCast]; rfl)
  refine Ev.congr (fun k => ?_) h
  simp only [laws_toMemberS.f, Int.toNat_natCast]
  rw [if_pos (by omega), if_pos (by omega)]
def cvVote (x : S56) : S59 := ⟨x.f0, x.f1⟩
theorem toVoteS_ev (l : List S56) (hl : l.length ≤ 1048576) : Ev (fun k => laws_toVoteS.f k l) (l.map cvVote) := by
  have h := map_loop (fun k out i => laws_toVoteS.l0 k l out i) l cvVote z59 (by omega)
    (fun k out => by simp only [laws_toVoteS.l0]; rw [if_neg (by omega)])
    (fun k out i x hx ho hw => by
      have hi := lt_of_get hx
      have hr : rd_T56 l (i : Int) = x := getD_of z56 hx
      simp only [laws_toVoteS.l0, laws_toVote.f, Option.bind_some, hr, hw]
      rw [if_pos (by omega), if_pos (by omega), if_pos (by omega), Int.toNat_natCast]; rfl)
  refine Ev.congr (fun k => ?_) h
  simp only [laws_toVoteS.f, Int.toNat_natCast]
  rw [if_pos (by omega), if_pos (by omega)]
theorem eqMember_self (a0 : Int) (a1 : Int) (a2 : Int) (a3 : Bool) : laws_eqMember.f a0 a1 a2 a3 a0 a1 a2 a3 = some true := by
  simp [laws_eqMember.f]
theorem eqMemberS_ev (l : List S68) (hl : l.length ≤ 4611686018427387904) : Ev (fun k => laws_eqMemberS.f k l l) true := by
  have h := count_loop (fun k i => laws_eqMemberS.l0 k l l i) l.length true hl
    (fun k => by simp only [laws_eqMemberS.l0]; rw [if_neg (by omega)])
    (fun k i hi hw => by simp only [laws_eqMemberS.l0, hw]; rw [if_pos (by omega), if_pos (by omega), if_pos (by omega)]; simp only [eqMember_self, Option.bind_some, if_true])
  refine Ev.congr (fun k => ?_) h
  simp only [laws_eqMemberS.f, if_true]
theorem eqVote_self (a0 : Int) (a1 : Int) : laws_eqVote.f a0 a1 a0 a1 = some true := by
  simp [laws_eqVote.f]
theorem eqVoteS_ev (l : List S59) (hl : l.length ≤ 4611686018427387904) : Ev (fun k => laws_eqVoteS.f k l l) true := by
  have h := count_loop (fun k i => laws_eqVoteS.l0 k l l i) l.length true hl
    (fun k => by simp only [laws_eqVoteS.l0]; rw [if_neg (by omega)])
    (fun k i hi hw => by simp only [laws_eqVoteS.l0, hw]; rw [if_pos (by omega), if_pos (by omega), if_pos (by omega)]; simp only [eqVote_self, Option.bind_some, if_true])
  refine Ev.congr (fun k => ?_) h
  simp only [laws_eqVoteS.f, if_true]
theorem l1In_eq (a b c : Int) : spec_l1In.f a b c = some (decide (b ≤ a ∧ a ≤ c)) := by
  unfold spec_l1In.f
  by_cases h : a ≥ b
  · rw [if_pos h]; simp [h]
  · rw [if_neg h]; simp [show ¬ (b ≤ a) from by omega]
theorem InRange_eq (a b c : Int) : impl_InRange.f a b c = some (decide (b ≤ a ∧ a ≤ c)) := by
  unfold impl_InRange.f
  by_cases h : b ≤ a
  · rw [if_pos h]; simp [h]
  · rw [if_neg h]; simp [h]
def okMember (l : List S68) (i : Nat) (x : S68) : Prop := (1 ≤ x.f0 ∧ x.f0 ≤ 99) ∧ (0 ≤ x.f1 ∧ x.f1 ≤ 100) ∧ (1 ≤ x.f2 ∧ x.f2 ≤ 10) ∧ (i = 0 ∨ (l.getD (i - 1) z68).f0 < x.f0)
instance (l : List S68) (i : Nat) (x : S68) : Decidable (okMember l i x) := by unfold okMember; infer_instance
def stepAC (l : List S68) : Nat → Unit → S68 → Bool ⊕ Unit := fun i _ x => if okMember l i x then .inr () else .inl false
def mAreCrew (l : List S68) : Bool := run (stepAC l) (fun _ => decide (1 ≤ (l.length : Int) ∧ (l.length : Int) ≤ 8)) 0 () l
theorem specAC_at (l : List S68) (hl : l.length ≤ 4611686018427387904) : ∀ k, l.length < k → spec_AreCrew.f k l = some (mAreCrew l) :=
  at_loop0 (fun k _ i => spec_AreCrew.l0 k l i) l (stepAC l) _ hl ()
    (fun k s => by simp only [spec_AreCrew.l0]; rw [if_neg (by omega)]; simp only [l1In_eq, Option.bind_some])
    (fun k s i x hx hw => by
      have hi := lt_of_get hx
      have hr : rd_T68 l (i : Int) = x := getD_of z68 hx
      simp only [spec_AreCrew.l0, hr, hw, l1In_eq, Option.bind_some, decide_eq_true_eq]; rw [if_pos (by omega), if_pos (by omega)]
      simp only [stepAC]
      by_cases c1 : 1 ≤ x.f0 ∧ x.f0 ≤ 99
      · by_cases c2 : 0 ≤ x.f1 ∧ x.f1 ≤ 100
        · by_cases c3 : 1 ≤ x.f2 ∧ x.f2 ≤ 10
          · rw [if_pos c1, if_pos c2, if_pos c3]
            rcases Nat.eq_zero_or_pos i with h0 | h0
            · subst h0
              rw [if_neg (by omega), if_pos (show okMember l _ x from ⟨c1, c2, c3, .inl rfl⟩)]; rfl
            · have hr' : rd_T68 l ((i - 1 : Nat) : Int) = l.getD (i - 1) z68 := getD_nat ..
              rw [if_pos (by omega), wrapd i h0 (by omega), if_pos (by omega), if_pos (by omega), hr']
              by_cases c4 : (l.getD (i - 1) z68).f0 < x.f0
              · rw [if_neg (by omega), if_pos (show okMember l _ x from ⟨c1, c2, c3, .inr c4⟩)]; rfl
              · rw [if_pos (by omega), if_neg (show ¬ okMember l _ x from fun h => h.2.2.2.elim (by omega) c4)]; rfl
          · rw [if_pos c1, if_pos c2, if_neg c3, if_neg (show ¬ okMember l _ x from fun h => c3 h.2.2.1)]; rfl
        · rw [if_pos c1, if_neg c2, if_neg (show ¬ okMember l _ x from fun h => c2 h.2.1)]; rfl
      · rw [if_neg c1, if_neg (show ¬ okMember l _ x from fun h => c1 h.1)]; rfl)
theorem implAC_at (l : List S68) (hl : l.length ≤ 4611686018427387904) : ∀ k, l.length < k → impl_AreCrew.f k l = some (mAreCrew l) :=
  at_loop0 (fun k _ i => impl_AreCrew.l0 k l l (l.length : Int) i) l (stepAC l) _ hl ()
    (fun k s => by simp only [impl_AreCrew.l0]; rw [if_neg (by omega)]; simp only [InRange_eq, Option.bind_some])
    (fun k s i x hx hw => by
      have hi := lt_of_get hx
      have hr : rd_T68 l (i : Int) = x := getD_of z68 hx
      simp only [impl_AreCrew.l0, hr, hw, InRange_eq, Option.bind_some, decide_eq_true_eq]; rw [if_pos (by omega), if_pos (by omega), if_pos (by omega)]
      simp only [stepAC]
      by_cases c1 : 1 ≤ x.f0 ∧ x.f0 ≤ 99
      · rw [if_pos c1]
        rcases Nat.eq_zero_or_pos i with h0 | h0
        · subst h0
          rw [if_neg (by omega)]
          by_cases c2 : 0 ≤ x.f1 ∧ x.f1 ≤ 100
          · rw [if_pos c2]
            by_cases c3 : 1 ≤ x.f2 ∧ x.f2 ≤ 10
            · rw [if_pos c3, if_pos (show okMember l _ x from ⟨c1, c2, c3, .inl rfl⟩)]; rfl
            · rw [if_neg c3, if_neg (show ¬ okMember l _ x from fun h => c3 h.2.2.1)]; rfl
          · rw [if_neg c2, if_neg (show ¬ okMember l _ x from fun h => c2 h.2.1)]; rfl
        · have hr' : rd_T68 l ((i - 1 : Nat) : Int) = l.getD (i - 1) z68 := getD_nat ..
          rw [if_pos (by omega), wrapd i h0 (by omega), if_pos (by omega), if_pos (by omega), hr']
          by_cases c4 : (l.getD (i - 1) z68).f0 < x.f0
          · rw [if_neg (by omega)]
            by_cases c2 : 0 ≤ x.f1 ∧ x.f1 ≤ 100
            · rw [if_pos c2]
              by_cases c3 : 1 ≤ x.f2 ∧ x.f2 ≤ 10
              · rw [if_pos c3, if_pos (show okMember l _ x from ⟨c1, c2, c3, .inr c4⟩)]; rfl
              · rw [if_neg c3, if_neg (show ¬ okMember l _ x from fun h => c3 h.2.2.1)]; rfl
            · rw [if_neg c2, if_neg (show ¬ okMember l _ x from fun h => c2 h.2.1)]; rfl
          · rw [if_pos (by omega), if_neg (show ¬ okMember l _ x from fun h => h.2.2.2.elim (by omega) c4)]; rfl
      · rw [if_neg c1, if_neg (show ¬ okMember l _ x from fun h => c1 h.1)]; rfl)
/-- What a crew is, member by member. -/
theorem runAC_iff (l0 : List S68) (b : Bool) : ∀ (t d : List S68), l0 = d ++ t → (run (stepAC l0) (fun _ => b) d.length () t = true ↔ (∀ i x, d.length ≤ i → l0[i]? = some x → okMember l0 i x) ∧ b = true)
  | [], d, h => by
    rw [run_nil]
    refine ⟨fun hb => ⟨fun i x hi hx => ?_, hb⟩, fun hb => hb.2⟩
    have := lt_of_get hx
    rw [h] at this
    simp at this
    omega
  | x :: t, d, h => by
    have hx : l0[d.length]? = some x := by rw [h]; simp
    by_cases c : okMember l0 d.length x
    · rw [run_inr (show stepAC l0 d.length () x = .inr () from if_pos c)]
      have ih := runAC_iff l0 b t (d ++ [x]) (by rw [h]; simp)
      rw [List.length_append, List.length_singleton] at ih
      rw [ih]
      refine ⟨fun hb => ⟨fun i y hi hy => ?_, hb.2⟩, fun hb => ⟨fun i y hi hy => hb.1 i y (by omega) hy, hb.2⟩⟩
      rcases Nat.lt_or_ge d.length i with h1 | h1
      · exact hb.1 i y (by omega) hy
      · obtain rfl : i = d.length := by omega
        rw [hx] at hy
        injection hy with hy
        exact hy ▸ c
    · rw [run_inl (show stepAC l0 d.length () x = .inl false from if_neg c)]
      exact ⟨fun hb => (by cases hb), fun hb => absurd (hb.1 d.length x (Nat.le_refl _) hx) c⟩
theorem mAreCrew_iff (l : List S68) : mAreCrew l = true ↔ (∀ i x, l[i]? = some x → okMember l i x) ∧ 1 ≤ l.length ∧ l.length ≤ 8 := by
  have h := runAC_iff l (decide (1 ≤ (l.length : Int) ∧ (l.length : Int) ≤ 8)) l [] rfl
  unfold mAreCrew
  rw [List.length_nil] at h
  rw [h, decide_eq_true_eq]
  exact ⟨fun h => ⟨fun i x hx => h.1 i x (Nat.zero_le _) hx, by omega⟩, fun h => ⟨fun i x _ hx => h.1 i x hx, by omega⟩⟩
theorem crew_member {l : List S68} (h : mAreCrew l = true) {x : S68} (hx : x ∈ l) : (1 ≤ x.f0 ∧ x.f0 ≤ 99) ∧ (0 ≤ x.f1 ∧ x.f1 ≤ 100) ∧ (1 ≤ x.f2 ∧ x.f2 ≤ 10) := by
  obtain ⟨i, hi, he⟩ := List.getElem_of_mem hx
  have := ((mAreCrew_iff l).1 h).1 i x (by rw [List.getElem?_eq_getElem hi, he])
  exact ⟨this.1, this.2.1, this.2.2.1⟩
theorem implPlace_at (l : List Int) (n : Int) (hl : l.length ≤ 4611686018427387904) : ∀ k, l.length < k → impl_placeOf.f k l n = some (place n l) :=
  at_loop0 (fun k _ i => impl_placeOf.l0 k n l (l.length : Int) i) l (stepPlace n) (fun _ => -1) hl ()
    (fun k s => by simp only [impl_placeOf.l0]; rw [if_neg (by omega)])
    (fun k s i x hx hw => by
      have hi := lt_of_get hx
      have hr : rd l (i : Int) = x := getD_of 0 hx
      simp only [impl_placeOf.l0, hr, hw]; rw [if_pos (by omega), if_pos (by omega), if_pos (by omega)]
      simp only [stepPlace]; split <;> rfl)
theorem implHas_at (l : List Int) (n : Int) (hl : l.length ≤ 4611686018427387904) : ∀ k, l.length < k → impl_has.f k l n = some (decide (n ∈ l)) := fun k hk => by
  simp only [impl_has.f, implPlace_at l n hl k hk, Option.bind_some, place_has]
def stepC (c : Int) : Nat → Int → S59 → Int ⊕ Int := fun _ s x => .inr (if x.f1 = c then wrap64 (s + 1) else s)
def mCount (v : List S59) (c : Int) : Int := ((v.filter fun x => decide (x.f1 = c)).length : Int)
theorem runC (c : Int) : ∀ (v : List S59) (i : Nat) (s : Int), 0 ≤ s → s + v.length ≤ 4611686018427387904 → run (stepC c) id i s v = s + mCount v c
  | [], i, s, _, _ => by simp [run, mCount]
  | x :: t, i, s, h0, h1 => by
    rw [List.length_cons] at h1
    by_cases h : x.f1 = c
    · rw [run_inr (s' := s + 1) (by show Sum.inr (if x.f1 = c then wrap64 (s + 1) else s) = _; rw [if_pos h, wrap_id (by omega) (by omega)]), runC c t (i + 1) (s + 1) (by omega) (by omega)]
      simp only [mCount, List.filter_cons, h, decide_true, if_true, List.length_cons]
      omega
    · rw [run_inr (s' := s) (by show Sum.inr (if x.f1 = c then wrap64 (s + 1) else s) = _; rw [if_neg h]), runC c t (i + 1) s h0 (by omega)]
      simp only [mCount, List.filter_cons, h, decide_false, Bool.false_eq_true, if_false]
theorem mCount_range (v : List S59) (c : Int) : 0 ≤ mCount v c ∧ mCount v c ≤ v.length := by
  unfold mCount
  have := List.length_filter_le (fun x : S59 => decide (x.f1 = c)) v
  omega
theorem specCF_at (v : List S59) (c : Int) (hl : v.length ≤ 1048577) : ∀ k, v.length < k → spec_CountFor.f k v c = some (mCount v c) := by
  have h := at_loop0 (fun k s i => spec_CountFor.l0 k v c s i) v (stepC c) id (by omega) 0
    (fun k s => by simp only [spec_CountFor.l0]; rw [if_neg (by omega)]; rfl)
    (fun k s i x hx hw => by
      have hi := lt_of_get hx
      have hr : rd_T59 v (i : Int) = x := getD_of z59 hx
      simp only [spec_CountFor.l0, hr, hw]; rw [if_pos (by omega), if_pos (by omega)]
      simp only [stepC, Sum.elim_inr]; split <;> rfl)
  rw [runC c v 0 0 (by omega) (by omega), Int.zero_add] at h
  exact h
theorem implCF_at (v : List S59) (c : Int) (hl : v.length ≤ 1048577) : ∀ k, v.length < k → impl_CountFor.f k v c = some (mCount v c) := by
  have h := at_loop0 (fun k s i => impl_CountFor.l0 k c s v (v.length : Int) i) v (stepC c) id (by omega) 0
    (fun k s => by simp only [impl_CountFor.l0]; rw [if_neg (by omega)]; rfl)
    (fun k s i x hx hw => by
      have hi := lt_of_get hx
      have hr : rd_T59 v (i : Int) = x := getD_of z59 hx
      simp only [impl_CountFor.l0, hr, hw]; rw [if_pos (by omega), if_pos (by omega), if_pos (by omega)]
      simp only [stepC, Sum.elim_inr]; split <;> rfl)
  rw [runC c v 0 0 (by omega) (by omega), Int.zero_add] at h
  exact h
def stepFind (n : Int) : Nat → Unit → S68 → Int ⊕ Unit := fun i _ x => if x.f0 = n then .inl (i : Int) else .inr ()
def mFind (l : List S68) (n : Int) : Int := run (stepFind n) (fun _ => -1) 0 () l
theorem runFind (n : Int) : ∀ (l : List S68) (i : Nat), (n ∈ l.map (·.f0) → (i : Int) ≤ run (stepFind n) (fun _ => -1) i () l) ∧ (n ∉ l.map (·.f0) → run (stepFind n) (fun _ => -1) i () l = -1)
  | [], _ => by simp [run]
  | x :: t, i => by
    by_cases h : x.f0 = n
    · rw [run_inl (show stepFind n i () x = .inl (i : Int) from if_pos h)]
      simp [h]
    · have h' : n ≠ x.f0 := fun e => h e.symm
      rw [run_inr (show stepFind n i () x = .inr () from if_neg h)]
      obtain ⟨h1, h2⟩ := runFind n t (i + 1)
      rw [List.map_cons]
      refine ⟨fun hm => ?_, fun hm => h2 (fun hm' => hm (List.mem_cons_of_mem _ hm'))⟩
      have := h1 ((List.mem_cons.1 hm).resolve_left h')
      omega
theorem mFind_neg (l : List S68) (n : Int) : mFind l n < 0 ↔ n ∉ l.map (·.f0) := by
  obtain ⟨h1, h2⟩ := runFind n l 0
  unfold mFind
  refine ⟨fun h hm => ?_, fun h => by rw [h2 h]; decide⟩
  have := h1 hm
  omega
theorem specFind_at (l : List S68) (n : Int) (hl : l.length ≤ 1048577) : ∀ k, l.length < k → spec_l16Find.f k l n = some (mFind l n) :=
  at_loop0 (fun k _ i => spec_l16Find.l0 k l n i) l (stepFind n) (fun _ => -1) (by omega) ()
    (fun k s => by simp only [spec_l16Find.l0]; rw [if_neg (by omega)])
    (fun k s i x hx hw => by
      have hi := lt_of_get hx
      have hr : rd_T68 l (i : Int) = x := getD_of z68 hx
      simp only [spec_l16Find.l0, hr, hw]; rw [if_pos (by omega), if_pos (by omega)]
      simp only [stepFind]; split <;> rfl)
theorem implFind_at (l : List S68) (n : Int) (hl : l.length ≤ 1048577) : ∀ k, l.length < k → impl_memberOf.f k l n = some (mFind l n) :=
  at_loop0 (fun k _ i => impl_memberOf.l0 k n l (l.length : Int) i) l (stepFind n) (fun _ => -1) (by omega) ()
    (fun k s => by simp only [impl_memberOf.l0]; rw [if_neg (by omega)])
    (fun k s i x hx hw => by
      have hi := lt_of_get hx
      have hr : rd_T68 l (i : Int) = x := getD_of z68 hx
      simp only [impl_memberOf.l0, hr, hw]; rw [if_pos (by omega), if_pos (by omega), if_pos (by omega)]
      simp only [stepFind]; split <;> rfl)
def okVote (l : List S68) (s : List Int) (x : S59) : Prop := x.f0 ∈ l.map (·.f0) ∧ x.f0 ∉ s ∧ (0 ≤ x.f1 ∧ x.f1 ≤ 9)
instance (l : List S68) (s : List Int) (x : S59) : Decidable (okVote l s x) := by unfold okVote; infer_instance
def stepAV (l : List S68) : Nat → List Int → S59 → Bool ⊕ List Int := fun _ s x => if okVote l s x then .inr (s ++ [x.f0]) else .inl false
def mAreVotes (l : List S68) (v : List S59) : Bool := run (stepAV l) (fun _ => mAreCrew l) 0 [] v
theorem implAV_at (l : List S68) (v : List S59) (hl : l.length ≤ 1048576) (hv : v.length ≤ 1048577) : ∀ k, v.length + (l.length + v.length + 1) < k → impl_AreVotes.f k l v = some (mAreVotes l v) :=
  at_loopI (fun k s i => impl_AreVotes.l0 k l s v (v.length : Int) i) v (stepAV l) (fun _ => mAreCrew l) (fun i s => s.length ≤ i) (by omega) [] (by simp) (l.length + v.length + 1)
    (fun k s hk _ => by simp only [impl_AreVotes.l0]; rw [if_neg (by omega), implAC_at l (by omega) k (by omega)]; rfl)
    (fun s i x s' hI _ he => by
      simp only [stepAV] at he
      split at he
      · injection he with he
        subst he
        simp; omega
      · cases he)
    (fun k s i x hk hI hx hw => by
      have hi := lt_of_get hx
      have hr : rd_T59 v (i : Int) = x := getD_of z59 hx
      simp only [impl_AreVotes.l0, hr, hw]; rw [if_pos (by omega), if_pos (by omega), if_pos (by omega)]
      simp only [implFind_at l x.f0 (by omega) k (by omega), implHas_at s x.f0 (by omega) k (by omega), InRange_eq, Option.bind_some, decide_eq_true_eq, stepAV]
      by_cases c1 : x.f0 ∈ l.map (·.f0)
      · rw [if_neg (fun h => (mFind_neg l x.f0).1 h c1)]
        by_cases c2 : x.f0 ∈ s
        · rw [if_pos c2, if_neg (show ¬ okVote l s x from fun h => h.2.1 c2)]; rfl
        · rw [if_neg c2]
          by_cases c3 : 0 ≤ x.f1 ∧ x.f1 ≤ 9
          · rw [if_pos c3, if_pos (show s.length < 17592186044416 by omega), if_pos (show okVote l s x from ⟨c1, c2, c3⟩)]; rfl
          · rw [if_neg c3, if_neg (show ¬ okVote l s x from fun h => c3 h.2.2)]; rfl
      · rw [if_pos ((mFind_neg l x.f0).2 c1), if_neg (show ¬ okVote l s x from fun h => c1 h.1)]; rfl)
/-- The inner loop of the reference: is one of the votes before by the same one? -/
theorem specAV_in (l : List S68) (v : List S59) (hv : v.length ≤ 1048577) (i : Nat) (x : S59) (hx : v[i]? = some x) (r : Bool) (hr : Ev (fun k => spec_AreVotes.l0 k l v ((i : Int) + 1)) r) :
    ∀ (d j : Nat), j + d = i → Ev (fun k => spec_AreVotes.l1 k l v (i : Int) (j : Int)) (if x.f0 ∈ ((v.take i).drop j).map (·.f0) then false else r)
  | 0, j, hj => by
    have hi := lt_of_get hx
    refine Ev.step (f := fun k => spec_AreVotes.l0 k l v ((i : Int) + 1)) (fun k => ?_) ?_
    · simp only [spec_AreVotes.l1, wrapi i (by omega)]
      rw [if_neg (by omega)]
    · rw [List.drop_eq_nil_of_le (by simp; omega)]
      simpa using hr
  | d + 1, j, hj => by
    have hi := lt_of_get hx
    have hj' : v[j]? = some v[j] := List.getElem?_eq_getElem (by omega)
    have e1 : rd_T59 v (i : Int) = x := getD_of z59 hx
    have e2 : rd_T59 v (j : Int) = v[j] := getD_of z59 hj'
    have e3 : (v.take i).drop j = v[j] :: (v.take i).drop (j + 1) := by
      rw [List.drop_eq_getElem_cons (by simp; omega)]
      simp
    have ih := specAV_in l v hv i x hx r hr d (j + 1) (by omega)
    rw [show ((j + 1 : Nat) : Int) = (j : Int) + 1 from by omega] at ih
    rw [e3, List.map_cons]
    by_cases c : v[j].f0 = x.f0
    · rw [if_pos (by simp [c])]
      refine Ev.step (f := fun k => some false) (fun k => ?_) (Ev.now _)
      simp only [spec_AreVotes.l1, e1, e2]
      rw [if_pos (by omega), if_pos (by omega), if_pos (by omega), if_pos (by omega), if_pos (by omega), if_pos c]
    · have c' : ¬ x.f0 = v[j].f0 := fun h => c h.symm
      simp only [List.mem_cons, c', false_or]
      refine Ev.step (fun k => ?_) ih
      simp only [spec_AreVotes.l1, e1, e2, wrapi j (by omega)]
      rw [if_pos (by omega), if_pos (by omega), if_pos (by omega), if_pos (by omega), if_pos (by omega), if_neg c]
theorem specAV_down (l : List S68) (v : List S59) (hl : l.length ≤ 1048576) (hv : v.length ≤ 1048577) : ∀ (t d : List S59), v = d ++ t → Ev (fun k => spec_AreVotes.l0 k l v (d.length : Int)) (run (stepAV l) (fun _ => mAreCrew l) d.length (d.map (·.f0)) t)
  | [], d, h => by
    have hlen : v.length = d.length := by rw [h]; simp
    refine Ev.step (f := fun k => (spec_AreCrew.f k l).bind fun t143 => some t143) (fun k => ?_) (Ev.bind (ev_at (specAC_at l (by omega))) (Ev.now _))
    simp only [spec_AreVotes.l0]
    rw [if_neg (by omega)]
  | x :: t, d, h => by
    have hlen : v.length = d.length + (t.length + 1) := by rw [h]; simp
    have hx : v[d.length]? = some x := by rw [h]; simp
    have hr : rd_T59 v (d.length : Int) = x := getD_of z59 hx
    have htk : v.take d.length = d := by rw [h]; simp
    have ih := specAV_down l v hl hv t (d ++ [x]) (by rw [h]; simp)
    rw [List.length_append, List.length_singleton, show ((d.length + 1 : Nat) : Int) = (d.length : Int) + 1 from by omega, List.map_append] at ih
    have hin := specAV_in l v hv d.length x hx _ ih d.length 0 (by omega)
    rw [htk, List.drop_zero] at hin
    refine Ev.step (f := fun k => (spec_l16Find.f k l x.f0).bind fun t145 => if t145 < 0 then spec_AreVotes.j1 k l v (d.length : Int) true else (spec_l1In.f x.f1 0 9).bind fun t147 => spec_AreVotes.j1 k l v (d.length : Int) (!t147)) (fun k => ?_) ?_
    · simp only [spec_AreVotes.l0, hr]
      rw [if_pos (by omega), if_pos (by omega)]
    · refine Ev.bind (ev_at (specFind_at l x.f0 (by omega))) ?_
      have hbad : Ev (fun k => spec_AreVotes.j1 k l v (d.length : Int) true) false := Ev.step (f := fun _ => some false) (fun k => by simp [spec_AreVotes.j1]) (Ev.now _)
      by_cases c1 : x.f0 ∈ l.map (·.f0)
      · simp only [if_neg (fun h => (mFind_neg l x.f0).1 h c1), l1In_eq, Option.bind_some]
        by_cases c3 : 0 ≤ x.f1 ∧ x.f1 ≤ 9
        · simp only [decide_eq_true c3, Bool.not_true]
          refine Ev.step (f := fun k => spec_AreVotes.l1 k l v (d.length : Int) 0) (fun k => by simp [spec_AreVotes.j1]) ?_
          by_cases c2 : x.f0 ∈ d.map (·.f0)
          · rw [if_pos c2] at hin
            rw [run_inl (show stepAV l d.length (d.map (·.f0)) x = .inl false from if_neg (fun h => h.2.1 c2))]
            exact hin
          · rw [if_neg c2] at hin
            rw [run_inr (show stepAV l d.length (d.map (·.f0)) x = .inr (d.map (·.f0) ++ [x.f0]) from if_pos ⟨c1, c2, c3⟩)]
            exact hin
        · simp only [decide_eq_false c3, Bool.not_false]
          rw [run_inl (show stepAV l d.length (d.map (·.f0)) x = .inl false from if_neg (fun h => c3 h.2.2))]
          exact hbad
      · simp only [if_pos ((mFind_neg l x.f0).2 c1)]
        rw [run_inl (show stepAV l d.length (d.map (·.f0)) x = .inl false from if_neg (fun h => c1 h.1))]
        exact hbad
theorem specAV_ev (l : List S68) (v : List S59) (hl : l.length ≤ 1048576) (hv : v.length ≤ 1048577) : Ev (fun k => spec_AreVotes.f k l v) (mAreVotes l v) := specAV_down l v hl hv v [] rfl
theorem implAV_ev (l : List S68) (v : List S59) (hl : l.length ≤ 1048576) (hv : v.length ≤ 1048577) : Ev (fun k => impl_AreVotes.f k l v) (mAreVotes l v) := ev_at (implAV_at l v hl hv)
def bestFrom (cnt : Int → Int) : Int → Int → Nat → Int
  | b, _, 0 => b
  | b, c, d + 1 => bestFrom cnt (if cnt c > cnt b then c else b) (c + 1) d
theorem bestFrom_succ (cnt : Int → Int) (b c : Int) (d : Nat) : bestFrom cnt b c (d + 1) = bestFrom cnt (if cnt c > cnt b then c else b) (c + 1) d := rfl
theorem best_first (cnt : Int → Int) : bestFrom cnt 0 0 10 = bestFrom cnt 0 1 9 := by
  rw [bestFrom_succ cnt 0 0 9, if_neg (by omega), Int.zero_add]
def stepO (v : List S59) (leader b : Int) : Nat → Unit → S59 → Int ⊕ Unit := fun _ _ x => if x.f0 = leader ∧ mCount v x.f1 = mCount v b then .inl x.f1 else .inr ()
def mOutcome (l : List S68) (v : List S59) (leader : Int) : Int := if v = [] ∨ mAreVotes l v = false then -1 else run (stepO v leader (bestFrom (mCount v) 0 1 9)) (fun _ => bestFrom (mCount v) 0 1 9) 0 () v
theorem specO1_at (v : List S59) (leader b : Int) (hv : v.length ≤ 1048577) : ∀ k, v.length + (v.length + 1) < k → spec_Outcome.l1 k v leader b 0 = some (run (stepO v leader b) (fun _ => b) 0 () v) :=
  at_loop (fun k _ i => spec_Outcome.l1 k v leader b i) v (stepO v leader b) (fun _ => b) (by omega) () (v.length + 1)
    (fun k s _ => by simp only [spec_Outcome.l1]; rw [if_neg (by omega)])
    (fun k s i x hk hx hw => by
      have hi := lt_of_get hx
      have hr : rd_T59 v (i : Int) = x := getD_of z59 hx
      simp only [spec_Outcome.l1, hr, hw]; rw [if_pos (by omega), if_pos (by omega)]
      simp only [specCF_at v _ hv k (by omega), Option.bind_some, stepO]
      by_cases c1 : x.f0 = leader
      · by_cases c2 : mCount v x.f1 = mCount v b
        · rw [if_pos c1, if_pos c2, if_pos ⟨c1, c2⟩]; rfl
        · rw [if_pos c1, if_neg c2, if_neg (fun h => c2 h.2)]; rfl
      · rw [if_neg c1, if_neg (fun h => c1 h.1)]; rfl)
theorem implO1_at (v : List S59) (leader b : Int) (hv : v.length ≤ 1048577) : ∀ k, v.length + (v.length + 1) < k → impl_Outcome.l1 k v leader b v (v.length : Int) 0 = some (run (stepO v leader b) (fun _ => b) 0 () v) :=
  at_loop (fun k _ i => impl_Outcome.l1 k v leader b v (v.length : Int) i) v (stepO v leader b) (fun _ => b) (by omega) () (v.length + 1)
    (fun k s _ => by simp only [impl_Outcome.l1]; rw [if_neg (by omega)])
    (fun k s i x hk hx hw => by
      have hi := lt_of_get hx
      have hr : rd_T59 v (i : Int) = x := getD_of z59 hx
      simp only [impl_Outcome.l1, hr, hw]; rw [if_pos (by omega), if_pos (by omega), if_pos (by omega)]
      simp only [implCF_at v _ hv k (by omega), Option.bind_some, stepO]
      by_cases c1 : x.f0 = leader
      · by_cases c2 : mCount v x.f1 = mCount v b
        · rw [if_pos c1, if_pos c2, if_pos ⟨c1, c2⟩]; rfl
        · rw [if_pos c1, if_neg c2, if_neg (fun h => c2 h.2)]; rfl
      · rw [if_neg c1, if_neg (fun h => c1 h.1)]; rfl)
theorem specO0_ev (v : List S59) (leader : Int) (hv : v.length ≤ 1048577) : ∀ (d : Nat) (b c : Int), c + d = 10 → 0 ≤ c → Ev (fun k => spec_Outcome.l0 k v leader b c) (run (stepO v leader (bestFrom (mCount v) b c d)) (fun _ => bestFrom (mCount v) b c d) 0 () v)
  | 0, b, c, hc, h0 => by
    refine Ev.step (f := fun k => spec_Outcome.l1 k v leader b 0) (fun k => ?_) (ev_at (specO1_at v leader b hv))
    simp only [spec_Outcome.l0]
    rw [if_neg (by omega)]
  | d + 1, b, c, hc, h0 => by
    refine Ev.step (f := fun k => (spec_CountFor.f k v c).bind fun t152 => (spec_CountFor.f k v b).bind fun t153 => if t152 > t153 then spec_Outcome.l0 k v leader c (c + 1) else spec_Outcome.l0 k v leader b (c + 1)) (fun k => ?_) ?_
    · simp only [spec_Outcome.l0, wrap_id (n := c + 1) (by omega) (by omega)]
      rw [if_pos (by omega)]
    · refine Ev.bind (ev_at (specCF_at v c hv)) ?_
      refine Ev.bind (ev_at (specCF_at v b hv)) ?_
      have ih := specO0_ev v leader hv d (if mCount v c > mCount v b then c else b) (c + 1) (by omega) (by omega)
      rw [bestFrom_succ]
      by_cases c1 : mCount v c > mCount v b
      · simp only [if_pos c1] at ih ⊢
        exact ih
      · simp only [if_neg c1] at ih ⊢
        exact ih
theorem implO0_ev (v : List S59) (leader : Int) (hv : v.length ≤ 1048577) : ∀ (d : Nat) (b c : Int), c + d = 10 → 0 ≤ c → Ev (fun k => impl_Outcome.l0 k v leader b c) (run (stepO v leader (bestFrom (mCount v) b c d)) (fun _ => bestFrom (mCount v) b c d) 0 () v)
  | 0, b, c, hc, h0 => by
    refine Ev.step (f := fun k => impl_Outcome.l1 k v leader b v (v.length : Int) 0) (fun k => ?_) (ev_at (implO1_at v leader b hv))
    simp only [impl_Outcome.l0]
    rw [if_neg (by omega)]
  | d + 1, b, c, hc, h0 => by
    refine Ev.step (f := fun k => (impl_CountFor.f k v c).bind fun t152 => (impl_CountFor.f k v b).bind fun t153 => if t152 > t153 then impl_Outcome.l0 k v leader c (c + 1) else impl_Outcome.l0 k v leader b (c + 1)) (fun k => ?_) ?_
    · simp only [impl_Outcome.l0, wrap_id (n := c + 1) (by omega) (by omega)]
      rw [if_pos (by omega)]
    · refine Ev.bind (ev_at (implCF_at v c hv)) ?_
      refine Ev.bind (ev_at (implCF_at v b hv)) ?_
      have ih := implO0_ev v leader hv d (if mCount v c > mCount v b then c else b) (c + 1) (by omega) (by omega)
      rw [bestFrom_succ]
      by_cases c1 : mCount v c > mCount v b
      · simp only [if_pos c1] at ih ⊢
        exact ih
      · simp only [if_neg c1] at ih ⊢
        exact ih
theorem specO_ev (l : List S68) (v : List S59) (leader : Int) (hl : l.length ≤ 1048576) (hv : v.length ≤ 1048577) : Ev (fun k => spec_Outcome.f k l v leader) (mOutcome l v leader) := by
  unfold spec_Outcome.f mOutcome
  have hbad : Ev (fun k => spec_Outcome.j0 k v leader true) (-1) := Ev.step (f := fun _ => some (-1)) (fun k => by simp [spec_Outcome.j0]) (Ev.now _)
  by_cases c : v = []
  · rw [if_pos (.inl c)]
    simp only [c, List.length_nil] at hbad ⊢
    exact hbad
  · have hne : ¬ (v.length : Int) = 0 := by
      have := List.length_pos_iff.2 c
      omega
    simp only [if_neg hne]
    refine Ev.bind (specAV_ev l v hl hv) ?_
    cases ha : mAreVotes l v with
    | false => rw [if_pos (.inr rfl)]; exact hbad
    | true =>
      rw [if_neg (by simp [c])]
      exact Ev.step (f := fun k => spec_Outcome.l0 k v leader 0 1) (fun k => by simp [spec_Outcome.j0]) (specO0_ev v leader hv 9 0 1 (by omega) (by omega))
theorem implO_ev (l : List S68) (v : List S59) (leader : Int) (hl : l.length ≤ 1048576) (hv : v.length ≤ 1048577) : Ev (fun k => impl_Outcome.f k l v leader) (mOutcome l v leader) := by
  unfold impl_Outcome.f mOutcome
  have hbad : Ev (fun k => impl_Outcome.j0 k v leader true) (-1) := Ev.step (f := fun _ => some (-1)) (fun k => by simp [impl_Outcome.j0]) (Ev.now _)
  by_cases c : v = []
  · rw [if_pos (.inl c)]
    simp only [c, List.length_nil] at hbad ⊢
    exact hbad
  · have hne : ¬ (v.length : Int) = 0 := by
      have := List.length_pos_iff.2 c
      omega
    simp only [if_neg hne]
    refine Ev.bind (implAV_ev l v hl hv) ?_
    cases ha : mAreVotes l v with
    | false => rw [if_pos (.inr rfl)]; exact hbad
    | true =>
      rw [if_neg (by simp [c])]
      have h := implO0_ev v leader hv 10 0 0 (by omega) (by omega)
      rw [best_first] at h
      exact Ev.step (f := fun k => impl_Outcome.l0 k v leader 0 0) (fun k => by simp [impl_Outcome.j0]) h
end FnExactOutcomePf
open FnExactOutcomePf
theorem FnExactOutcome : ∀ (l0 : List S70) (l1 : List S56) (a2 : Int), l0.length ≤ maxLen → (∀ y ∈ l0, (I64 y.f0 ∧ I64 y.f1 ∧ I64 y.f2 ∧ True)) → l1.length ≤ maxLen → (∀ y ∈ l1, (I64 y.f0 ∧ I64 y.f1)) → I64 a2 → ∃ k, laws_FnExactOutcome.f k l0 l1 a2 = some true := by
  intro l0 l1 a2 hl _ hl1 _ _
  apply Ev.rounds (g := fun k => laws_FnExactOutcome.f k l0 l1 a2)
  unfold laws_FnExactOutcome.f
  simp only [szMemberS_eq l0 1048576 hl (by omega) (by omega), Option.bind_some]
  by_cases h : (1048576 : Int) - (l0.length : Int) < 0
  · simp only [if_pos h]; exact Ev.now _
  · simp only [if_neg h]
    simp only [szVoteS_eq l1 (1048576 - (l0.length : Int)) hl1 (by omega) (by omega), Option.bind_some]
    by_cases h' : (1048576 : Int) - (l0.length : Int) - (l1.length : Int) < 0
    · simp only [if_pos h']; exact Ev.now _
    · simp only [if_neg h']
      have hlen : (l0.map cvMember).length = l0.length := List.length_map ..
      have hlen1 : (l1.map cvVote).length = l1.length := List.length_map ..
      refine Ev.bind (toMemberS_ev l0 (by omega)) ?_
      refine Ev.bind (toVoteS_ev l1 (by omega)) ?_
      refine Ev.bind (specO_ev _ _ a2 (by omega) (by omega)) ?_
      refine Ev.bind (toMemberS_ev l0 (by omega)) ?_
      refine Ev.bind (toVoteS_ev l1 (by omega)) ?_
      refine Ev.bind (implO_ev _ _ a2 (by omega) (by omega)) ?_
      simp only [if_true]
      refine Ev.bind (toMemberS_ev l0 (by omega)) ?_
      refine Ev.bind (eqMemberS_ev _ (by omega)) ?_
      simp only [if_true]
      refine Ev.bind (toVoteS_ev l1 (by omega)) ?_
      refine Ev.bind (eqVoteS_ev _ (by omega)) ?_
      exact Ev.now _
end Go.Proofs.Ytfccmpchpcflkaa.Pure
