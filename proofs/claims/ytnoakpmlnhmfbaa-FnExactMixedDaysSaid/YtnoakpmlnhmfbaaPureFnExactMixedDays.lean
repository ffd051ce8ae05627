/- FnExactMixedDays: the pure statement of the law, over the printed functions. No condition beyond the statement's own. -/
import Derived.Test.YtnoakpmlnhmfbaaSFnExactMixedDaysx7
import Derived.Test.YtnoakpmlnhmfbaaLib
import Derived.Test.YtnoakpmlnhmfbaaOpens
namespace Go.Proofs.Ytnoakpmlnhmfbaa.Pure
open Go.RowKit Go.Proofs.Ytnoakpmlnhmfbaa.PFnExactMixedDays Go.Proofs.YtnoakpmlnhmfbaaW.PrintWords Go.Proofs.YtnoakpmlnhmfbaaW.PrintLast Go.Proofs.Ytnoakpmlnhmfbaa.Lib Go.Proofs.Ytnoakpmlnhmfbaa.Opens
set_option linter.unusedVariables false
set_option linter.unusedSimpArgs false
namespace FnExactMixedDaysPf
theorem szMemberS_eq (l : List S89) (a : Int) (hl : l.length ≤ maxLen) (h0 : 0 ≤ a) (h1 : a ≤ 1048576) : laws_szMemberS.f l a = some (if a - (l.length : Int) < 0 then -1 else a - (l.length : Int)) := by
  have h : wrap64 (a - (l.length : Int)) = a - (l.length : Int) := wrap_id (by unfold maxLen at hl; omega) (by omega)
  simp only [laws_szMemberS.f, h]
  split <;> rfl
theorem szBoolS_eq (l : List Bool) (a : Int) (hl : l.length ≤ maxLen) (h0 : 0 ≤ a) (h1 : a ≤ 1048576) : laws_szBoolS.f l a = some (if a - (l.length : Int) < 0 then -1 else a - (l.length : Int)) := by
  have h : wrap64 (a - (l.length : Int)) = a - (l.length : Int) := wrap_id (by unfold maxLen at hl; omega) (by omega)
  simp only [laws_szBoolS.f, h]
  split <;> rfl
def cvMember (x : S89) : S83 := ⟨x.f0, x.f1, x.f2, x.f3⟩
theorem toMemberS_ev (l : List S89) (hl : l.length ≤ 1048576) : Ev (fun k => laws_toMemberS.f k l) (l.map cvMember) := by
  have h := map_loop (fun k out i => laws_toMemberS.l0 k l out i) l cvMember z83 (by omega)
    (fun k out => by simp only [laws_toMemberS.l0]; rw [if_neg (by omega)])
    (fun k out i x hx ho hw => by
      have hi := lt_of_get hx
      have hr : rd_T89 l (i : Int) = x := getD_of z89 hx
      simp only [laws_toMemberS.l0, laws_toMember.f, Option.bind_some, hr, hw]
      rw [if_pos (by omega), if_pos (by omega), if_pos (by omega), Int.toNat_natCast]; rfl)
  refine Ev.congr (fun k => ?_) h
  simp only [laws_toMemberS.f, Int.toNat_natCast]
  rw [if_pos (by omega), if_pos (by omega)]
theorem toBoolS_ev (l : List Bool) (hl : l.length ≤ 1048576) : Ev (fun k => laws_toBoolS.f k l) l := by
  have h := map_loop (fun k out i => laws_toBoolS.l0 k l out i) l id false (by omega)
    (fun k out => by simp only [laws_toBoolS.l0]; rw [if_neg (by omega)])
    (fun k out i x hx ho hw => by
      have hi := lt_of_get hx
      have hr : rdOf false l (i : Int) = x := getD_of false hx
      simp only [laws_toBoolS.l0, hr, hw]
      rw [if_pos (by omega), if_pos (by omega), if_pos (by omega), Int.toNat_natCast]; rfl)
  rw [List.map_id] at h
  refine Ev.congr (fun k => ?_) h
  simp only [laws_toBoolS.f, Int.toNat_natCast]
  rw [if_pos (by omega), if_pos (by omega)]
theorem eqMember_self (a0 : Int) (a1 : Int) (a2 : Int) (a3 : Bool) : laws_eqMember.f a0 a1 a2 a3 a0 a1 a2 a3 = some true := by
  simp [laws_eqMember.f]
theorem eqMemberS_ev (l : List S83) (hl : l.length ≤ 4611686018427387904) : Ev (fun k => laws_eqMemberS.f k l l) true := by
  have h := count_loop (fun k i => laws_eqMemberS.l0 k l l i) l.length true hl
    (fun k => by simp only [laws_eqMemberS.l0]; rw [if_neg (by omega)])
    (fun k i hi hw => by simp only [laws_eqMemberS.l0, hw]; rw [if_pos (by omega), if_pos (by omega), if_pos (by omega)]; simp only [eqMember_self, Option.bind_some, if_true])
  refine Ev.congr (fun k => ?_) h
  simp only [laws_eqMemberS.f, if_true]
theorem eqBoolS_ev (l : List Bool) (hl : l.length ≤ 4611686018427387904) : Ev (fun k => laws_eqBoolS.f k l l) true := by
  have h := count_loop (fun k i => laws_eqBoolS.l0 k l l i) l.length true hl
    (fun k => by simp only [laws_eqBoolS.l0]; rw [if_neg (by omega)])
    (fun k i hi hw => by simp only [laws_eqBoolS.l0, hw]; rw [if_pos (by omega), if_pos (by omega), if_pos (by omega)]; simp)
  refine Ev.congr (fun k => ?_) h
  simp only [laws_eqBoolS.f, if_true]
theorem l1In_eq (a b c : Int) : spec_l1In.f a b c = some (decide (b ≤ a ∧ a ≤ c)) := by
  unfold spec_l1In.f
  by_cases h : a ≥ b
  · rw [if_pos h]; simp [h]
  · rw [if_neg h]; simp [show ¬ (b ≤ a) from by omega]
theorem InRange_eq (a b c : Int) : impl_InRange.f a b c = some (decide (b ≤ a ∧ a ≤ c)) := by
  unfold impl_InRange.f
  by_cases h : b ≤ a
  · rw [if_pos h]; simp [h]
  · rw [if_neg h]; simp [h]
def okMember (l : List S83) (i : Nat) (x : S83) : Prop := (1 ≤ x.f0 ∧ x.f0 ≤ 99) ∧ (0 ≤ x.f1 ∧ x.f1 ≤ 100) ∧ (1 ≤ x.f2 ∧ x.f2 ≤ 10) ∧ (i = 0 ∨ (l.getD (i - 1) z83).f0 < x.f0)
instance (l : List S83) (i : Nat) (x : S83) : Decidable (okMember l i x) := by unfold okMember; infer_instance
def stepAC (l : List S83) : Nat → Unit → S83 → Bool ⊕ Unit := fun i _ x => if okMember l i x then .inr () else .inl false
def mAreCrew (l : List S83) : Bool := run (stepAC l) (fun _ => decide (1 ≤ (l.length : Int) ∧ (l.length : Int) ≤ 8)) 0 () l
theorem specAC_at (l : List S83) (hl : l.length ≤ 4611686018427387904) : ∀ k, l.length < k → spec_AreCrew.f k l = some (mAreCrew l) :=
  at_loop0 (fun k _ i => spec_AreCrew.l0 k l i) l (stepAC l) _ hl ()
    (fun k s => by simp only [spec_AreCrew.l0]; rw [if_neg (by omega)]; simp only [l1In_eq, Option.bind_some])
    (fun k s i x hx hw => by
      have hi := lt_of_get hx
      have hr : rd_T83 l (i : Int) = x := getD_of z83 hx
      simp only [spec_AreCrew.l0, hr, hw, l1In_eq, Option.bind_some, decide_eq_true_eq]; rw [if_pos (by omega), if_pos (by omega)]
      simp only [stepAC]
      by_cases c1 : 1 ≤ x.f0 ∧ x.f0 ≤ 99
      · by_cases c2 : 0 ≤ x.f1 ∧ x.f1 ≤ 100
        · by_cases c3 : 1 ≤ x.f2 ∧ x.f2 ≤ 10
          · rw [if_pos c1, if_pos c2, if_pos c3]
            rcases Nat.eq_zero_or_pos i with h0 | h0
            · subst h0
              rw [if_neg (by omega), if_pos (show okMember l _ x from ⟨c1, c2, c3, .inl rfl⟩)]; rfl
            · have hr' : rd_T83 l ((i - 1 : Nat) : Int) = l.getD (i - 1) z83 := getD_nat ..
              rw [if_pos (by omega), wrapd i h0 (by omega), if_pos (by omega), if_pos (by omega), hr']
              by_cases c4 : (l.getD (i - 1) z83).f0 < x.f0
              · rw [if_neg (by omega), if_pos (show okMember l _ x from ⟨c1, c2, c3, .inr c4⟩)]; rfl
              · rw [if_pos (by omega), if_neg (show ¬ okMember l _ x from fun h => h.2.2.2.elim (by omega) c4)]; rfl
          · rw [if_pos c1, if_pos c2, if_neg c3, if_neg (show ¬ okMember l _ x from fun h => c3 h.2.2.1)]; rfl
        · rw [if_pos c1, if_neg c2, if_neg (show ¬ okMember l _ x from fun h => c2 h.2.1)]; rfl
      · rw [if_neg c1, if_neg (show ¬ okMember l _ x from fun h => c1 h.1)]; rfl)
theorem implAC_at (l : List S83) (hl : l.length ≤ 4611686018427387904) : ∀ k, l.length < k → impl_AreCrew.f k l = some (mAreCrew l) :=
  at_loop0 (fun k _ i => impl_AreCrew.l0 k l l (l.length : Int) i) l (stepAC l) _ hl ()
    (fun k s => by simp only [impl_AreCrew.l0]; rw [if_neg (by omega)]; simp only [InRange_eq, Option.bind_some])
    (fun k s i x hx hw => by
      have hi := lt_of_get hx
      have hr : rd_T83 l (i : Int) = x := getD_of z83 hx
      simp only [impl_AreCrew.l0, hr, hw, InRange_eq, Option.bind_some, decide_eq_true_eq]; rw [if_pos (by omega), if_pos (by omega), if_pos (by omega)]
      simp only [stepAC]
      by_cases c1 : 1 ≤ x.f0 ∧ x.f0 ≤ 99
      · rw [if_pos c1]
        rcases Nat.eq_zero_or_pos i with h0 | h0
        · subst h0
          rw [if_neg (by omega)]
          by_cases c2 : 0 ≤ x.f1 ∧ x.f1 ≤ 100
          · rw [if_pos c2]
            by_cases c3 : 1 ≤ x.f2 ∧ x.f2 ≤ 10
            · rw [if_pos c3, if_pos (show okMember l _ x from ⟨c1, c2, c3, .inl rfl⟩)]; rfl
            · rw [if_neg c3, if_neg (show ¬ okMember l _ x from fun h => c3 h.2.2.1)]; rfl
          · rw [if_neg c2, if_neg (show ¬ okMember l _ x from fun h => c2 h.2.1)]; rfl
        · have hr' : rd_T83 l ((i - 1 : Nat) : Int) = l.getD (i - 1) z83 := getD_nat ..
          rw [if_pos (by omega), wrapd i h0 (by omega), if_pos (by omega), if_pos (by omega), hr']
          by_cases c4 : (l.getD (i - 1) z83).f0 < x.f0
          · rw [if_neg (by omega)]
            by_cases c2 : 0 ≤ x.f1 ∧ x.f1 ≤ 100
            · rw [if_pos c2]
              by_cases c3 : 1 ≤ x.f2 ∧ x.f2 ≤ 10
              · rw [if_pos c3, if_pos (show okMember l _ x from ⟨c1, c2, c3, .inr c4⟩)]; rfl
              · rw [if_neg c3, if_neg (show ¬ okMember l _ x from fun h => c3 h.2.2.1)]; rfl
            · rw [if_neg c2, if_neg (show ¬ okMember l _ x from fun h => c2 h.2.1)]; rfl
          · rw [if_pos (by omega), if_neg (show ¬ okMember l _ x from fun h => h.2.2.2.elim (by omega) c4)]; rfl
      · rw [if_neg c1, if_neg (show ¬ okMember l _ x from fun h => c1 h.1)]; rfl)
/-- What a crew is, member by member. -/
theorem runAC_iff (l0 : List S83) (b : Bool) : ∀ (t d : List S83), l0 = d ++ t → (run (stepAC l0) (fun _ => b) d.length () t = true ↔ (∀ i x, d.length ≤ i → l0[i]? = some x → okMember l0 i x) ∧ b = true)
  | [], d, h => by
    rw [run_nil]
    refine ⟨fun hb => ⟨fun i x hi hx => ?_, hb⟩, fun hb => hb.2⟩
    have := lt_of_get hx
    rw [h] at this
    simp at this
    omega
  | x :: t, d, h => by
    have hx : l0[d.length]? = some x := by rw [h]; simp
    by_cases c : okMember l0 d.length x
    · rw [run_inr (show stepAC l0 d.length () x = .inr () from if_pos c)]
      have ih := runAC_iff l0 b t (d ++ [x]) (by rw [h]; simp)
      rw [List.length_append, List.length_singleton] at ih
      rw [ih]
      refine ⟨fun hb => ⟨fun i y hi hy => ?_, hb.2⟩, fun hb => ⟨fun i y hi hy => hb.1 i y (by omega) hy, hb.2⟩⟩
      rcases Nat.lt_or_ge d.length i with h1 | h1
      · exact hb.1 i y (by omega) hy
      · obtain rfl : i = d.length := by omega
        rw [hx] at hy
        injection hy with hy
        exact hy ▸ c
    · rw [run_inl (show stepAC l0 d.length () x = .inl false from if_neg c)]
      exact ⟨fun hb => (by cases hb), fun hb => absurd (hb.1 d.length x (Nat.le_refl _) hx) c⟩
theorem mAreCrew_iff (l : List S83) : mAreCrew l = true ↔ (∀ i x, l[i]? = some x → okMember l i x) ∧ 1 ≤ l.length ∧ l.length ≤ 8 := by
  have h := runAC_iff l (decide (1 ≤ (l.length : Int) ∧ (l.length : Int) ≤ 8)) l [] rfl
  unfold mAreCrew
  rw [List.length_nil] at h
  rw [h, decide_eq_true_eq]
  exact ⟨fun h => ⟨fun i x hx => h.1 i x (Nat.zero_le _) hx, by omega⟩, fun h => ⟨fun i x _ hx => h.1 i x hx, by omega⟩⟩
theorem crew_member {l : List S83} (h : mAreCrew l = true) {x : S83} (hx : x ∈ l) : (1 ≤ x.f0 ∧ x.f0 ≤ 99) ∧ (0 ≤ x.f1 ∧ x.f1 ≤ 100) ∧ (1 ≤ x.f2 ∧ x.f2 ≤ 10) := by
  obtain ⟨i, hi, he⟩ := List.getElem_of_mem hx
  have := ((mAreCrew_iff l).1 h).1 i x (by rw [List.getElem?_eq_getElem hi, he])
  exact ⟨this.1, this.2.1, this.2.2.1⟩
def needSum (l : List S83) : Int := l.foldl (fun s x => s + x.f2) 0
theorem foldNeed (l : List S83) : ∀ s : Int, l.foldl (fun s x => s + x.f2) s = s + needSum l := by
  unfold needSum
  induction l with
  | nil => intro s; simp
  | cons x t ih => intro s; simp only [List.foldl_cons]; rw [ih (s + x.f2), ih (0 + x.f2)]; omega
theorem needSum_le (l : List S83) (h : ∀ x ∈ l, 1 ≤ x.f2 ∧ x.f2 ≤ 10) : (l.length : Int) ≤ needSum l ∧ needSum l ≤ 10 * l.length := by
  induction l with
  | nil => simp [needSum]
  | cons x t ih =>
    have h1 := h x (by simp)
    have h2 := ih (fun y hy => h y (by simp [hy]))
    have h3 : needSum (x :: t) = x.f2 + needSum t := by
      unfold needSum
      rw [List.foldl_cons, foldNeed t (0 + x.f2)]
      show 0 + x.f2 + needSum t = x.f2 + needSum t
      omega
    rw [h3, List.length_cons]
    omega
def mNeedOf (l : List S83) : Int := if mAreCrew l = true then needSum l else 0
def stepNeed : Nat → Int → S83 → Int ⊕ Int := fun _ s x => .inr (wrap64 (s + x.f2))
theorem runNeed : ∀ (l : List S83) (i : Nat) (s : Int), (∀ x ∈ l, 1 ≤ x.f2 ∧ x.f2 ≤ 10) → 0 ≤ s → s + 10 * l.length ≤ 4611686018427387904 → run stepNeed id i s l = s + needSum l
  | [], i, s, _, _, _ => by simp [run, needSum]
  | x :: t, i, s, h, h0, h1 => by
    have hx := h x (by simp)
    rw [List.length_cons] at h1
    rw [run_inr (s' := s + x.f2) (by show Sum.inr (wrap64 (s + x.f2)) = _; rw [wrap_id (by omega) (by omega)]), runNeed t (i + 1) (s + x.f2) (fun y hy => h y (by simp [hy])) (by omega) (by omega)]
    unfold needSum
    rw [List.foldl_cons, foldNeed t (0 + x.f2)]
    show _ = s + (0 + x.f2 + needSum t)
    unfold needSum
    omega
theorem mNeedOf_range (l : List S83) : 0 ≤ mNeedOf l ∧ mNeedOf l ≤ 80 := by
  unfold mNeedOf
  split
  · rename_i h
    have h1 := needSum_le l (fun x hx => (crew_member h hx).2.2)
    have h2 := ((mAreCrew_iff l).1 h).2
    omega
  · omega
theorem mNeedOf_pos {l : List S83} (h : mAreCrew l = true) : 1 ≤ mNeedOf l := by
  unfold mNeedOf
  rw [if_pos h]
  have h1 := needSum_le l (fun x hx => (crew_member h hx).2.2)
  have h2 := ((mAreCrew_iff l).1 h).2
  omega
theorem specNeedOf_at (l : List S83) (hl : l.length ≤ 4611686018427387904) : ∀ k, l.length + (l.length + 1) < k → spec_NeedOf.f k l = some (mNeedOf l) := by
  intro k hk
  cases hc : mAreCrew l with
  | false =>
    obtain ⟨k, rfl⟩ : ∃ m, k = m + 1 := ⟨k - 1, by omega⟩
    simp only [spec_NeedOf.f, spec_NeedOf.l0, mNeedOf, hc]
    by_cases h : (0 : Int) < (l.length : Int)
    · rw [if_pos h, specAC_at l hl k (by omega)]
      simp [hc]
    · rw [if_neg h]
      simp
  | true =>
    have h := at_loop (fun k s i => spec_NeedOf.l0 k l s i) l stepNeed id hl 0 (l.length + 1)
      (fun k s _ => by simp only [spec_NeedOf.l0]; rw [if_neg (by omega)]; rfl)
      (fun k s i x hk hx hw => by
        have hi := lt_of_get hx
        have hr : rd_T83 l (i : Int) = x := getD_of z83 hx
        simp only [spec_NeedOf.l0, hr, hw, specAC_at l hl k (by omega), hc, Option.bind_some, if_true]; rw [if_pos (by omega), if_pos (by omega)]
        rfl) k hk
    show spec_NeedOf.l0 k l 0 0 = _
    rw [h, runNeed l 0 0 (fun x hx => (crew_member hc hx).2.2) (by omega) (by have := ((mAreCrew_iff l).1 hc).2; omega), mNeedOf, if_pos hc, Int.zero_add]
theorem implNeedOf_at (l : List S83) (hl : l.length ≤ 4611686018427387904) : ∀ k, l.length < k → impl_NeedOf.f k l = some (mNeedOf l) := by
  intro k hk
  simp only [impl_NeedOf.f, implAC_at l hl k hk, Option.bind_some, mNeedOf]
  cases hc : mAreCrew l with
  | false => simp
  | true =>
    simp only [if_true]
    have h := at_loop0 (fun k s i => impl_NeedOf.l0 k s l (l.length : Int) i) l stepNeed id hl 0
      (fun k s => by simp only [impl_NeedOf.l0]; rw [if_neg (by omega)]; rfl)
      (fun k s i x hx hw => by
        have hi := lt_of_get hx
        have hr : rd_T83 l (i : Int) = x := getD_of z83 hx
        simp only [impl_NeedOf.l0, hr, hw]; rw [if_pos (by omega), if_pos (by omega), if_pos (by omega)]
        rfl) k hk
    rw [h, runNeed l 0 0 (fun x hx => (crew_member hc hx).2.2) (by omega) (by have := ((mAreCrew_iff l).1 hc).2; omega), Int.zero_add]
def mNeedAt (l : List S83) (level : Int) : Int := if 0 ≤ level ∧ level ≤ 2 then (mNeedOf l + level).tdiv (level + 1) else 0
theorem specNeedAt_at (l : List S83) (v : Int) (hl : l.length ≤ 4611686018427387904) : ∀ k, l.length + (l.length + 1) < k → spec_NeedAt.f k l v = some (mNeedAt l v) := by
  intro k hk
  have hn := mNeedOf_range l
  simp only [spec_NeedAt.f, l1In_eq, Option.bind_some, decide_eq_true_eq, mNeedAt]
  by_cases h : 0 ≤ v ∧ v ≤ 2
  · rw [if_pos h, if_pos h, specNeedOf_at l hl k hk]
    simp only [Option.bind_some]
    unfold spec_CeilDiv.f
    have h1 : wrap64 (v + 1) = v + 1 := wrap_id (by omega) (by omega)
    simp only [h1, l1In_eq, Option.bind_some, decide_eq_true_eq]
    rw [if_pos (by omega), if_pos (by omega), if_neg (by omega)]
    have h2 : wrap64 (wrap64 (mNeedOf l + (v + 1)) - 1) = mNeedOf l + v := by rw [wrap_id (n := mNeedOf l + (v + 1)) (by omega) (by omega), wrap_id (by omega) (by omega)]; omega
    have h3 : wrap64 ((mNeedOf l + v).tdiv (v + 1)) = (mNeedOf l + v).tdiv (v + 1) := by
      obtain h | h | h : v = 0 ∨ v = 1 ∨ v = 2 := by omega
      all_goals (subst h; apply wrap_id <;> (rw [Int.tdiv_eq_ediv_of_nonneg (by omega)]; omega))
    rw [h2, h3]
    rfl
  · rw [if_neg h, if_neg h]
theorem implNeedAt_at (l : List S83) (v : Int) (hl : l.length ≤ 4611686018427387904) : ∀ k, l.length < k → impl_NeedAt.f k l v = some (mNeedAt l v) := by
  intro k hk
  have hn := mNeedOf_range l
  simp only [impl_NeedAt.f, InRange_eq, Option.bind_some, decide_eq_true_eq, mNeedAt]
  by_cases h : 0 ≤ v ∧ v ≤ 2
  · rw [if_pos h, if_pos h, implNeedOf_at l hl k hk]
    simp only [Option.bind_some]
    have h1 : wrap64 (v + 1) = v + 1 := wrap_id (by omega) (by omega)
    simp only [h1]
    rw [if_neg (by omega)]
    have h2 : wrap64 (mNeedOf l + v) = mNeedOf l + v := wrap_id (by omega) (by omega)
    have h3 : wrap64 ((mNeedOf l + v).tdiv (v + 1)) = (mNeedOf l + v).tdiv (v + 1) := by
      obtain h | h | h : v = 0 ∨ v = 1 ∨ v = 2 := by omega
      all_goals (subst h; apply wrap_id <;> (rw [Int.tdiv_eq_ediv_of_nonneg (by omega)]; omega))
    rw [h2, h3]
  · rw [if_neg h, if_neg h]
theorem szParty_ok (a0 a1 : Int) (l2 : List S89) (l3 : List Bool) (a : Int) (h2 : l2.length ≤ maxLen) (h3 : l3.length ≤ maxLen) (ha0 : 0 ≤ a) (ha : a ≤ 1048576) :
    ∃ r, laws_szParty.f a0 a1 l2 l3 a = some r ∧ (¬ r < 0 → l2.length + l3.length + r ≤ a) ∧ r ≤ a := by
  unfold laws_szParty.f
  rw [szMemberS_eq l2 a h2 ha0 ha]
  simp only [Option.bind_some]
  by_cases h : a - (l2.length : Int) < 0
  · rw [if_pos h]
    exact ⟨-1, by simp, by omega, by omega⟩
  · rw [if_neg h, if_neg h, szBoolS_eq l3 _ h3 (by omega) (by omega)]
    simp only [Option.bind_some]
    by_cases h' : a - (l2.length : Int) - (l3.length : Int) < 0
    · rw [if_pos h']
      exact ⟨-1, by simp, by omega, by omega⟩
    · rw [if_neg h', if_neg h']
      exact ⟨_, rfl, by omega, by omega⟩
theorem toParty_ev (a0 a1 : Int) (l2 : List S89) (l3 : List Bool) (h2 : l2.length ≤ 1048576) (h3 : l3.length ≤ 1048576) : Ev (fun k => laws_toParty.f k a0 a1 l2 l3) (a0, a1, l2.map cvMember, l3) := by
  unfold laws_toParty.f
  refine Ev.bind (toMemberS_ev l2 h2) ?_
  refine Ev.bind (toBoolS_ev l3 h3) ?_
  exact Ev.now _
theorem eqParty_ev (a0 a1 : Int) (l2 : List S83) (l3 : List Bool) (h2 : l2.length ≤ 1048576) (h3 : l3.length ≤ 1048576) : Ev (fun k => laws_eqParty.f k a0 a1 l2 l3 a0 a1 l2 l3) true := by
  unfold laws_eqParty.f
  simp only [if_true]
  refine Ev.bind (eqMemberS_ev l2 (by omega)) ?_
  simp only [if_true]
  refine Ev.bind (eqBoolS_ev l3 (by omega)) ?_
  exact Ev.now _
def mixOk (food : Int) (l : List S83) (days k : Int) : Bool := decide (wrap64 (wrap64 (k * mNeedAt l 0) + wrap64 (wrap64 (days - k) * mNeedAt l 1)) ≤ food)
def mMixed (food : Int) (l : List S83) (days : Int) : Int := if mAreCrew l = true ∧ (0 ≤ days ∧ days ≤ 1000) then backFrom (mixOk food l days) days (days + 1).toNat else -1
theorem specMD_down (a0 food : Int) (l : List S83) (p : List Bool) (days : Int) (hl : l.length ≤ 1048576) (hd : 0 ≤ days ∧ days ≤ 1000) : ∀ (n k : Nat) (h : Int), h + 1 = n → h ≤ days → l.length + (l.length + 1) + n + 1 < k → spec_MixedDays.l0 k days h a0 food l p = some (backFrom (mixOk food l days) h n)
  | 0, k, h, hi, h0, hk => by
    obtain ⟨k, rfl⟩ : ∃ m, k = m + 1 := ⟨k - 1, by omega⟩
    simp only [spec_MixedDays.l0]
    rw [if_neg (by omega)]
    rfl
  | n + 1, k, h, hi, h0, hk => by
    obtain ⟨k, rfl⟩ : ∃ m, k = m + 1 := ⟨k - 1, by omega⟩
    simp only [spec_MixedDays.l0]
    rw [if_pos (by omega), specNeedAt_at l 0 (by omega) k (by omega), specNeedAt_at l 1 (by omega) k (by omega), wrap_id (n := h - 1) (by omega) (by omega), specMD_down a0 food l p days hl hd n k (h - 1) (by omega) (by omega) (by omega), backFrom_succ]
    simp only [Option.bind_some, mixOk, decide_eq_true_eq]
    split <;> rfl
theorem implMD_down (a0 food : Int) (l : List S83) (p : List Bool) (days : Int) (hl : l.length ≤ 1048576) (hd : 0 ≤ days ∧ days ≤ 1000) : ∀ (n k : Nat) (h : Int), h + 1 = n → h ≤ days → l.length + (l.length + 1) + n + 1 < k → impl_MixedDays.l0 k days h a0 food l p = some (backFrom (mixOk food l days) h n)
  | 0, k, h, hi, h0, hk => by
    obtain ⟨k, rfl⟩ : ∃ m, k = m + 1 := ⟨k - 1, by omega⟩
    simp only [impl_MixedDays.l0]
    rw [if_neg (by omega)]
    rfl
  | n + 1, k, h, hi, h0, hk => by
    obtain ⟨k, rfl⟩ : ∃ m, k = m + 1 := ⟨k - 1, by omega⟩
    simp only [impl_MixedDays.l0]
    rw [if_pos (by omega), implNeedAt_at l 0 (by omega) k (by omega), implNeedAt_at l 1 (by omega) k (by omega), wrap_id (n := h - 1) (by omega) (by omega), implMD_down a0 food l p days hl hd n k (h - 1) (by omega) (by omega) (by omega), backFrom_succ]
    simp only [Option.bind_some, mixOk, decide_eq_true_eq]
    split <;> rfl
theorem specMD_at (a0 food : Int) (l : List S83) (p : List Bool) (days : Int) (hl : l.length ≤ 1048576) : ∀ K, K = l.length + (l.length + 1) + 1003 → ∀ k, K < k → spec_MixedDays.f k a0 food l p days = some (mMixed food l days) := by
  intro K hK k hk
  obtain ⟨k, rfl⟩ : ∃ m, k = m + 1 := ⟨k - 1, by omega⟩
  simp only [spec_MixedDays.f, specAC_at l (by omega) (k + 1) (by omega), l1In_eq, Option.bind_some, mMixed, spec_MixedDays.j0]
  cases mAreCrew l with
  | false => simp
  | true =>
    by_cases h : 0 ≤ days ∧ days ≤ 1000
    · simp only [decide_eq_true h, Bool.not_true, Bool.false_eq_true, if_false, if_true, h, and_self]
      exact specMD_down a0 food l p days hl h (days + 1).toNat k days (by omega) (by omega) (by omega)
    · simp [h]
theorem implMD_at (a0 food : Int) (l : List S83) (p : List Bool) (days : Int) (hl : l.length ≤ 1048576) : ∀ K, K = l.length + (l.length + 1) + 1003 → ∀ k, K < k → impl_MixedDays.f k a0 food l p days = some (mMixed food l days) := by
  intro K hK k hk
  obtain ⟨k, rfl⟩ : ∃ m, k = m + 1 := ⟨k - 1, by omega⟩
  simp only [impl_MixedDays.f, implAC_at l (by omega) (k + 1) (by omega), InRange_eq, Option.bind_some, mMixed, impl_MixedDays.j0]
  cases mAreCrew l with
  | false => simp
  | true =>
    by_cases h : 0 ≤ days ∧ days ≤ 1000
    · simp only [decide_eq_true h, Bool.not_true, Bool.false_eq_true, if_false, if_true, h, and_self]
      exact implMD_down a0 food l p days hl h (days + 1).toNat k days (by omega) (by omega) (by omega)
    · simp [h]
theorem specMD_ev (a0 food : Int) (l : List S83) (p : List Bool) (days : Int) (hl : l.length ≤ 1048576) : Ev (fun k => spec_MixedDays.f k a0 food l p days) (mMixed food l days) := ev_at (specMD_at a0 food l p days hl _ rfl)
theorem implMD_ev (a0 food : Int) (l : List S83) (p : List Bool) (days : Int) (hl : l.length ≤ 1048576) : Ev (fun k => impl_MixedDays.f k a0 food l p days) (mMixed food l days) := ev_at (implMD_at a0 food l p days hl _ rfl)
end FnExactMixedDaysPf
open FnExactMixedDaysPf
theorem FnExactMixedDays : ∀ (a0_0 : Int) (a0_1 : Int) (l0_2 : List S89) (l0_3 : List Bool) (a1 : Int), I64 a0_0 → I64 a0_1 → l0_2.length ≤ maxLen → (∀ y ∈ l0_2, (I64 y.f0 ∧ I64 y.f1 ∧ I64 y.f2 ∧ True)) → l0_3.length ≤ maxLen → (∀ y ∈ l0_3, True) → I64 a1 → ∃ k, laws_FnExactMixedDays.f k a0_0 a0_1 l0_2 l0_3 a1 = some true := by
  intro a0 food l2 l3 a1 _ _ hl2 _ hl3 _ _
  apply Ev.rounds (g := fun k => laws_FnExactMixedDays.f k a0 food l2 l3 a1)
  unfold laws_FnExactMixedDays.f
  obtain ⟨r, hr, hb, _⟩ := szParty_ok a0 food l2 l3 1048576 hl2 hl3 (by omega) (by omega)
  simp only [hr, Option.bind_some]
  by_cases h : r < 0
  · simp only [if_pos h]; exact Ev.now _
  · simp only [if_neg h]
    have hb' := hb h
    have hlen : (l2.map cvMember).length = l2.length := List.length_map ..
    refine Ev.bind (toParty_ev a0 food l2 l3 (by omega) (by omega)) ?_
    refine Ev.bind (specMD_ev a0 food (l2.map cvMember) l3 a1 (by omega)) ?_
    refine Ev.bind (toParty_ev a0 food l2 l3 (by omega) (by omega)) ?_
    refine Ev.bind (implMD_ev a0 food (l2.map cvMember) l3 a1 (by omega)) ?_
    simp only [if_true]
    refine Ev.bind (toParty_ev a0 food l2 l3 (by omega) (by omega)) ?_
    refine Ev.bind (eqParty_ev a0 food (l2.map cvMember) l3 (by omega) (by omega)) ?_
    exact Ev.now _
end Go.Proofs.Ytnoakpmlnhmfbaa.Pure
