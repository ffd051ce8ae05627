/- FnExactSleepHours: the pure statement of the law, over the printed functions. No condition beyond the statement's own. -/
import Derived.Test.YtfccmpchpcflkaaPFnExactSleepHoursx5
import Derived.Test.YtfccmpchpcflkaaLib
import Derived.Test.YtfccmpchpcflkaaOpens
namespace Go.Proofs.Ytfccmpchpcflkaa.Pure
open Go.RowKit Go.Proofs.Ytfccmpchpcflkaa.PFnExactSleepHours Go.Proofs.YtfccmpchpcflkaaW.PrintWords Go.Proofs.YtfccmpchpcflkaaW.PrintLast Go.Proofs.Ytfccmpchpcflkaa.Lib Go.Proofs.Ytfccmpchpcflkaa.Opens
set_option linter.unusedVariables false
set_option linter.unusedSimpArgs false
namespace FnExactSleepHoursPf
theorem szMemberS_eq (l : List S70) (a : Int) (hl : l.length ≤ maxLen) (h0 : 0 ≤ a) (h1 : a ≤ 1048576) : laws_szMemberS.f l a = some (if a - (l.length : Int) < 0 then -1 else a - (l.length : Int)) := by
  have h : wrap64 (a - (l.length : Int)) = a - (l.length : Int) := wrap_id (by unfold maxLen at hl; omega) (by omega)
  simp only [laws_szMemberS.f, h]
  split <;> rfl
def cvMember (x : S70) : S68 := ⟨x.f0, x.f1, x.f2, x.f3⟩
theorem toMemberS_ev (l : List S70) (hl : l.length ≤ 1048576) : Ev (fun k => laws_toMemberS.f k l) (l.map cvMember) := by
  have h := map_loop (fun k out i => laws_toMemberS.l0 k l out i) l cvMember z68 (by omega)
    (fun k out => by simp only [laws_toMemberS.l0]; rw [if_neg (by omega)])
    (fun k out i x hx ho hw => by
      have hi := lt_of_get hx
      have hr : rd_T70 l (i : Int) = x := getD_of z70 hx
      simp only [laws_toMemberS.l0, laws_toMember.f, Option.bind_some, hr, hw]
      rw [if_pos (by omega), if_pos (by omega), if_pos (by omega), Int.toNat_natCast]; rfl)
  refine Ev.congr (fun k => ?_) h
  simp only [laws_toMemberS.f, Int.toNat_natCast]
  rw [if_pos (by omega), if_pos (by omega)]
theorem eqMember_self (a0 : Int) (a1 : Int) (a2 : Int) (a3 : Bool) : laws_eqMember.f a0 a1 a2 a3 a0 a1 a2 a3 = some true := by
  simp [laws_eqMember.f]
theorem eqMemberS_ev (l : List S68) (hl : l.length ≤ 4611686018427387904) : Ev (fun k => laws_eqMemberS.f k l l) true := by
  have h := count_loop (fun k i => laws_eqMemberS.l0 k l l i) l.length true hl
    (fun k => by simp only [laws_eqMemberS.l0]; rw [if_neg (by omega)])
    (fun k i hi hw => by simp only [laws_eqMemberS.l0, hw]; rw [if_pos (by omega), if_pos (by omega), if_pos (by omega)]; simp only [eqMember_self, Option.bind_some, if_true])
  refine Ev.congr (fun k => ?_) h
  simp only [laws_eqMemberS.f, if_true]
theorem l1In_eq (a b c : Int) : spec_l1In.f a b c = some (decide (b ≤ a ∧ a ≤ c)) := by
  unfold spec_l1In.f
  by_cases h : a ≥ b
  · rw [if_pos h]; simp [h]
  · rw [if_neg h]; simp [show ¬ (b ≤ a) from by omega]
theorem InRange_eq (a b c : Int) : impl_InRange.f a b c = some (decide (b ≤ a ∧ a ≤ c)) := by
  unfold impl_InRange.f
  by_cases h : b ≤ a
  · rw [if_pos h]; simp [h]
  · rw [if_neg h]; simp [h]
def okMember (l : List S68) (i : Nat) (x : S68) : Prop := (1 ≤ x.f0 ∧ x.f0 ≤ 99) ∧ (0 ≤ x.f1 ∧ x.f1 ≤ 100) ∧ (1 ≤ x.f2 ∧ x.f2 ≤ 10) ∧ (i = 0 ∨ (l.getD (i - 1) z68).f0 < x.f0)
instance (l : List S68) (i : Nat) (x : S68) : Decidable (okMember l i x) := by unfold okMember; infer_instance
def stepAC (l : List S68) : Nat → Unit → S68 → Bool ⊕ Unit := fun i _ x => if okMember l i x then .inr () else .inl false
def mAreCrew (l : List S68) : Bool := run (stepAC l) (fun _ => decide (1 ≤ (l.length : Int) ∧ (l.length : Int) ≤ 8)) 0 () l
theorem specAC_at (l : List S68) (hl : l.length ≤ 4611686018427387904) : ∀ k, l.length < k → spec_AreCrew.f k l = some (mAreCrew l) :=
  at_loop0 (fun k _ i => spec_AreCrew.l0 k l i) l (stepAC l) _ hl ()
    (fun k s => by simp only [spec_AreCrew.l0]; rw [if_neg (by omega)]; simp only [l1In_eq, Option.bind_some])
    (fun k s i x hx hw => by
      have hi := lt_of_get hx
      have hr : rd_T68 l (i : Int) = x := getD_of z68 hx
      simp only [spec_AreCrew.l0, hr, hw, l1In_eq, Option.bind_some, decide_eq_true_eq]; rw [if_pos (by omega), if_pos (by omega)]
      simp only [stepAC]
      by_cases c1 : 1 ≤ x.f0 ∧ x.f0 ≤ 99
      · by_cases c2 : 0 ≤ x.f1 ∧ x.f1 ≤ 100
        · by_cases c3 : 1 ≤ x.f2 ∧ x.f2 ≤ 10
          · rw [if_pos c1, if_pos c2, if_pos c3]
            rcases Nat.eq_zero_or_pos i with h0 | h0
            · subst h0
              rw [if_neg (by omega), if_pos (show okMember l _ x from ⟨c1, c2, c3, .inl rfl⟩)]; rfl
            · have hr' : rd_T68 l ((i - 1 : Nat) : Int) = l.getD (i - 1) z68 := getD_nat ..
              rw [if_pos (by omega), wrapd i h0 (by omega), if_pos (by omega), if_pos (by omega), hr']
              by_cases c4 : (l.getD (i - 1) z68).f0 < x.f0
              · rw [if_neg (by omega), if_pos (show okMember l _ x from ⟨c1, c2, c3, .inr c4⟩)]; rfl
              · rw [if_pos (by omega), if_neg (show ¬ okMember l _ x from fun h => h.2.2.2.elim (by omega) c4)]; rfl
          · rw [if_pos c1, if_pos c2, if_neg c3, if_neg (show ¬ okMember l _ x from fun h => c3 h.2.2.1)]; rfl
        · rw [if_pos c1, if_neg c2, if_neg (show ¬ okMember l _ x from fun h => c2 h.2.1)]; rfl
      · rw [if_neg c1, if_neg (show ¬ okMember l _ x from fun h => c1 h.1)]; rfl)
theorem implAC_at (l : List S68) (hl : l.length ≤ 4611686018427387904) : ∀ k, l.length < k → impl_AreCrew.f k l = some (mAreCrew l) :=
  at_loop0 (fun k _ i => impl_AreCrew.l0 k l l (l.length : Int) i) l (stepAC l) _ hl ()
    (fun k s => by simp only [impl_AreCrew.l0]; rw [if_neg (by omega)]; simp only [InRange_eq, Option.bind_some])
    (fun k s i x hx hw => by
      have hi := lt_of_get hx
      have hr : rd_T68 l (i : Int) = x := getD_of z68 hx
      simp only [impl_AreCrew.l0, hr, hw, InRange_eq, Option.bind_some, decide_eq_true_eq]; rw [if_pos (by omega), if_pos (by omega), if_pos (by omega)]
      simp only [stepAC]
      by_cases c1 : 1 ≤ x.f0 ∧ x.f0 ≤ 99
      · rw [if_pos c1]
        rcases Nat.eq_zero_or_pos i with h0 | h0
        · subst h0
          rw [if_neg (by omega)]
          by_cases c2 : 0 ≤ x.f1 ∧ x.f1 ≤ 100
          · rw [if_pos c2]
            by_cases c3 : 1 ≤ x.f2 ∧ x.f2 ≤ 10
            · rw [if_pos c3, if_pos (show okMember l _ x from ⟨c1, c2, c3, .inl rfl⟩)]; rfl
            · rw [if_neg c3, if_neg (show ¬ okMember l _ x from fun h => c3 h.2.2.1)]; rfl
          · rw [if_neg c2, if_neg (show ¬ okMember l _ x from fun h => c2 h.2.1)]; rfl
        · have hr' : rd_T68 l ((i - 1 : Nat) : Int) = l.getD (i - 1) z68 := getD_nat ..
          rw [if_pos (by omega), wrapd i h0 (by omega), if_pos (by omega), if_pos (by omega), hr']
          by_cases c4 : (l.getD (i - 1) z68).f0 < x.f0
          · rw [if_neg (by omega)]
            by_cases c2 : 0 ≤ x.f1 ∧ x.f1 ≤ 100
            · rw [if_pos c2]
              by_cases c3 : 1 ≤ x.f2 ∧ x.f2 ≤ 10
              · rw [if_pos c3, if_pos (show okMember l _ x from ⟨c1, c2, c3, .inr c4⟩)]; rfl
              · rw [if_neg c3, if_neg (show ¬ okMember l _ x from fun h => c3 h.2.2.1)]; rfl
            · rw [if_neg c2, if_neg (show ¬ okMember l _ x from fun h => c2 h.2.1)]; rfl
          · rw [if_pos (by omega), if_neg (show ¬ okMember l _ x from fun h => h.2.2.2.elim (by omega) c4)]; rfl
      · rw [if_neg c1, if_neg (show ¬ okMember l _ x from fun h => c1 h.1)]; rfl)
/-- What a crew is, member by member. -/
theorem runAC_iff (l0 : List S68) (b : Bool) : ∀ (t d : List S68), l0 = d ++ t → (run (stepAC l0) (fun _ => b) d.length () t = true ↔ (∀ i x, d.length ≤ i → l0[i]? = some x → okMember l0 i x) ∧ b = true)
  | [], d, h => by
    rw [run_nil]
    refine ⟨fun hb => ⟨fun i x hi hx => ?_, hb⟩, fun hb => hb.2⟩
    have := lt_of_get hx
    rw [h] at this
    simp at this
    omega
  | x :: t, d, h => by
    have hx : l0[d.length]? = some x := by rw [h]; simp
    by_cases c : okMember l0 d.length x
    · rw [run_inr (show stepAC l0 d.length () x = .inr () from if_pos c)]
      have ih := runAC_iff l0 b t (d ++ [x]) (by rw [h]; simp)
      rw [List.length_append, List.length_singleton] at ih
      rw [ih]
      refine ⟨fun hb => ⟨fun i y hi hy => ?_, hb.2⟩, fun hb => ⟨fun i y hi hy => hb.1 i y (by omega) hy, hb.2⟩⟩
      rcases Nat.lt_or_ge d.length i with h1 | h1
      · exact hb.1 i y (by omega) hy
      · obtain rfl : i = d.length := by omega
        rw [hx] at hy
        injection hy with hy
        exact hy ▸ c
    · rw [run_inl (show stepAC l0 d.length () x = .inl false from if_neg c)]
      exact ⟨fun hb => (by cases hb), fun hb => absurd (hb.1 d.length x (Nat.le_refl _) hx) c⟩
theorem mAreCrew_iff (l : List S68) : mAreCrew l = true ↔ (∀ i x, l[i]? = some x → okMember l i x) ∧ 1 ≤ l.length ∧ l.length ≤ 8 := by
  have h := runAC_iff l (decide (1 ≤ (l.length : Int) ∧ (l.length : Int) ≤ 8)) l [] rfl
  unfold mAreCrew
  rw [List.length_nil] at h
  rw [h, decide_eq_true_eq]
  exact ⟨fun h => ⟨fun i x hx => h.1 i x (Nat.zero_le _) hx, by omega⟩, fun h => ⟨fun i x _ hx => h.1 i x hx, by omega⟩⟩
theorem crew_member {l : List S68} (h : mAreCrew l = true) {x : S68} (hx : x ∈ l) : (1 ≤ x.f0 ∧ x.f0 ≤ 99) ∧ (0 ≤ x.f1 ∧ x.f1 ≤ 100) ∧ (1 ≤ x.f2 ∧ x.f2 ≤ 10) := by
  obtain ⟨i, hi, he⟩ := List.getElem_of_mem hx
  have := ((mAreCrew_iff l).1 h).1 i x (by rw [List.getElem?_eq_getElem hi, he])
  exact ⟨this.1, this.2.1, this.2.2.1⟩
def healthy (l : List S68) : List Int := (l.filter fun x => !x.f3).map (·.f0)
def stepH : Nat → List Int → S68 → List Int ⊕ List Int := fun _ s x => .inr (if x.f3 = true then s else s ++ [x.f0])
theorem runH : ∀ (l : List S68) (i : Nat) (s : List Int), run stepH id i s l = s ++ healthy l
  | [], i, s => by simp [run, healthy]
  | x :: t, i, s => by
    rw [run_inr (show stepH i s x = .inr (if x.f3 = true then s else s ++ [x.f0]) from rfl), runH t]
    cases hx : x.f3 <;> simp [healthy, hx]
theorem healthy_len (l : List S68) : (healthy l).length ≤ l.length := by
  unfold healthy
  rw [List.length_map]
  exact List.length_filter_le ..
theorem specHealthy_at (l : List S68) (hl : l.length ≤ 1048576) : ∀ k, l.length < k → spec_Healthy.f k l = some (healthy l) := by
  have h := at_loopI (fun k s i => spec_Healthy.l0 k l s i) l stepH id (fun i s => s.length ≤ i) (by omega) [] (by simp) 0
    (fun k s _ _ => by simp only [spec_Healthy.l0]; rw [if_neg (by omega)]; rfl)
    (fun s i x s' hI _ he => by
      simp only [stepH, Sum.inr.injEq] at he
      subst he
      split
      · omega
      · simp; omega)
    (fun k s i x _ hI hx hw => by
      have hi := lt_of_get hx
      have hr : rd_T68 l (i : Int) = x := getD_of z68 hx
      simp only [spec_Healthy.l0, hr, hw]; rw [if_pos (by omega), if_pos (by omega), if_pos (show s.length < 17592186044416 by omega)]
      simp only [stepH, Sum.elim_inr]
      split <;> rfl)
  intro k hk
  have := h k (by omega)
  rw [runH, List.nil_append] at this
  exact this
theorem implHealthy_at (l : List S68) (hl : l.length ≤ 1048576) : ∀ k, l.length < k → impl_Healthy.f k l = some (healthy l) := by
  have h := at_loopI (fun k s i => impl_Healthy.l0 k s l (l.length : Int) i) l stepH id (fun i s => s.length ≤ i) (by omega) [] (by simp) 0
    (fun k s _ _ => by simp only [impl_Healthy.l0]; rw [if_neg (by omega)]; rfl)
    (fun s i x s' hI _ he => by
      simp only [stepH, Sum.inr.injEq] at he
      subst he
      split
      · omega
      · simp; omega)
    (fun k s i x _ hI hx hw => by
      have hi := lt_of_get hx
      have hr : rd_T68 l (i : Int) = x := getD_of z68 hx
      simp only [impl_Healthy.l0, hr, hw]; rw [if_pos (by omega), if_pos (by omega), if_pos (by omega), if_pos (show s.length < 17592186044416 by omega)]
      simp only [stepH, Sum.elim_inr]
      split <;> rfl)
  intro k hk
  have := h k (by omega)
  rw [runH, List.nil_append] at this
  exact this
def mWatchOf (l : List S68) (h : Int) : Int := if mAreCrew l = true ∧ healthy l ≠ [] ∧ 0 ≤ h then rd (healthy l) (h % (healthy l).length) else 0
theorem watch_arith (n : Nat) (h : Int) (hn : 0 < n) (h0 : 0 ≤ h) : Int.tmod h (n : Int) = h % (n : Int) ∧ 0 ≤ h % (n : Int) ∧ h % (n : Int) < (n : Int) :=
  ⟨Int.tmod_eq_emod_of_nonneg h0, Int.emod_nonneg _ (by omega), Int.emod_lt_of_pos _ (by omega)⟩
theorem specWatchOf_at (l : List S68) (h : Int) (hl : l.length ≤ 1048576) : ∀ k, l.length < k → spec_WatchOf.f k l h = some (mWatchOf l h) := by
  intro k hk
  simp only [spec_WatchOf.f, specHealthy_at l hl k hk, specAC_at l (by omega) k hk, Option.bind_some, mWatchOf]
  by_cases c : mAreCrew l = true
  · rw [if_pos c]
    by_cases c1 : healthy l = []
    · rw [if_pos (by simp [c1]), if_neg (fun h => h.2.1 c1)]
    · have hn : 0 < (healthy l).length := List.length_pos_iff.2 c1
      rw [if_neg (by omega)]
      by_cases c2 : h < 0
      · rw [if_pos c2, if_neg (fun h => absurd h.2.2 (by omega))]
      · obtain ⟨a1, a2, a3⟩ := watch_arith _ h hn (by omega)
        rw [if_neg c2, a1, if_pos a2, if_pos a3, if_pos ⟨c, c1, by omega⟩]
  · rw [if_neg c, if_neg (fun h => c h.1)]
theorem implWatchOf_at (l : List S68) (h : Int) (hl : l.length ≤ 1048576) : ∀ k, l.length < k → impl_WatchOf.f k l h = some (mWatchOf l h) := by
  intro k hk
  simp only [impl_WatchOf.f, implHealthy_at l hl k hk, implAC_at l (by omega) k hk, Option.bind_some, mWatchOf]
  by_cases c : mAreCrew l = true
  · rw [if_pos c]
    by_cases c1 : healthy l = []
    · rw [if_pos (by simp [c1]), if_neg (fun h => h.2.1 c1)]
    · have hn : 0 < (healthy l).length := List.length_pos_iff.2 c1
      rw [if_neg (by omega)]
      by_cases c2 : h < 0
      · rw [if_pos c2, if_neg (fun h => absurd h.2.2 (by omega))]
      · obtain ⟨a1, a2, a3⟩ := watch_arith _ h hn (by omega)
        rw [if_neg c2, a1, if_pos a2, if_pos a3, if_pos ⟨c, c1, by omega⟩]
  · rw [if_neg c, if_neg (fun h => c h.1)]
def mWatches (l : List S68) (id : Int) (h : Int) : Bool := decide (id ≠ 0 ∧ mWatchOf l h = id)
theorem watches_at (l : List S68) (id h : Int) (hl : l.length ≤ 1048576) : ∀ k, l.length < k → impl_watches.f k l id h = some (mWatches l id h) := by
  intro k hk
  simp only [impl_watches.f, implWatchOf_at l h hl k hk, Option.bind_some, mWatches]
  by_cases c : id = 0
  · rw [if_pos c, decide_eq_false (fun h => h.1 c)]
  · rw [if_neg c]
    congr 1
    by_cases c2 : mWatchOf l h = id
    · simp [c, c2]
    · simp [c2]
def mSwap (l : List S68) (hour id : Int) : Int := if 0 ≤ hour ∧ hour ≤ 100000 then firstFrom (mWatches l id) (hour + 1) 100 else -1
theorem specSW_down (l : List S68) (hour id : Int) (hl : l.length ≤ 1048576) (hh : 0 ≤ hour ∧ hour ≤ 100000) : ∀ (n k : Nat) (h : Int), h + n = hour + 101 → hour < h → l.length + n + 1 < k →
    spec_SwapWatch.l0 k l hour id h = some (firstFrom (mWatches l id) h n)
  | 0, k, h, hi, _, hk => by
    obtain ⟨k, rfl⟩ : ∃ m, k = m + 1 := ⟨k - 1, by omega⟩
    simp only [spec_SwapWatch.l0]
    rw [if_neg (by rw [wrap_id (by omega) (by omega)]; omega)]
    rfl
  | n + 1, k, h, hi, h0, hk => by
    obtain ⟨k, rfl⟩ : ∃ m, k = m + 1 := ⟨k - 1, by omega⟩
    simp only [spec_SwapWatch.l0]
    rw [if_pos (by rw [wrap_id (by omega) (by omega)]; omega), specWatchOf_at l h hl k (by omega), wrap_id (n := h + 1) (by omega) (by omega), specSW_down l hour id hl hh n k (h + 1) (by omega) (by omega) (by omega)]
    simp only [Option.bind_some]
    rw [firstFrom_succ]
    by_cases c : mWatchOf l h = id
    · rw [if_pos c]
      by_cases c0 : id = 0
      · rw [if_pos c0, if_neg (show ¬ mWatches l id h = true from fun h => (of_decide_eq_true h).1 c0)]
      · rw [if_neg c0, if_pos (show mWatches l id h = true from decide_eq_true ⟨c0, c⟩)]
    · rw [if_neg c, if_neg (show ¬ mWatches l id h = true from fun h => c (of_decide_eq_true h).2)]
theorem specSW_at (l : List S68) (hour id : Int) (hl : l.length ≤ 1048576) : ∀ k, l.length + 101 < k → spec_SwapWatch.f k l hour id = some (mSwap l hour id) := by
  intro k hk
  simp only [spec_SwapWatch.f, l1In_eq, Option.bind_some, decide_eq_true_eq, mSwap]
  by_cases h : 0 ≤ hour ∧ hour ≤ 100000
  · rw [if_pos h, if_pos h, wrap_id (by omega) (by omega)]
    exact specSW_down l hour id hl h 100 k (hour + 1) (by omega) (by omega) (by omega)
  · rw [if_neg h, if_neg h]
theorem implSW_down (l : List S68) (hour id : Int) (hl : l.length ≤ 1048576) (hh : 0 ≤ hour ∧ hour ≤ 100000) : ∀ (n k : Nat) (h : Int), h + n = hour + 101 → hour < h → l.length + n + 1 < k →
    impl_SwapWatch.l0 k l hour id h = some (firstFrom (mWatches l id) h n)
  | 0, k, h, hi, _, hk => by
    obtain ⟨k, rfl⟩ : ∃ m, k = m + 1 := ⟨k - 1, by omega⟩
    simp only [impl_SwapWatch.l0]
    rw [if_neg (by rw [wrap_id (by omega) (by omega)]; omega)]
    rfl
  | n + 1, k, h, hi, h0, hk => by
    obtain ⟨k, rfl⟩ : ∃ m, k = m + 1 := ⟨k - 1, by omega⟩
    simp only [impl_SwapWatch.l0]
    rw [if_pos (by rw [wrap_id (by omega) (by omega)]; omega), watches_at l id h hl k (by omega), wrap_id (n := h + 1) (by omega) (by omega), implSW_down l hour id hl hh n k (h + 1) (by omega) (by omega) (by omega)]
    simp only [Option.bind_some]
    rw [firstFrom_succ]
    split <;> rfl
theorem implSW_at (l : List S68) (hour id : Int) (hl : l.length ≤ 1048576) : ∀ k, l.length + 101 < k → impl_SwapWatch.f k l hour id = some (mSwap l hour id) := by
  intro k hk
  simp only [impl_SwapWatch.f, InRange_eq, Option.bind_some, decide_eq_true_eq, mSwap]
  by_cases h : 0 ≤ hour ∧ hour ≤ 100000
  · rw [if_pos h, if_pos h, wrap_id (by omega) (by omega)]
    exact implSW_down l hour id hl h 100 k (hour + 1) (by omega) (by omega) (by omega)
  · rw [if_neg h, if_neg h]
theorem watches_period (l : List S68) (id h : Int) (h0 : 0 ≤ h) (hw : mWatches l id h = true) : ∃ m : Nat, 1 ≤ m ∧ m ≤ 8 ∧ mWatches l id (h + m) = true := by
  obtain ⟨hid, hw⟩ := of_decide_eq_true hw
  unfold mWatchOf at hw
  by_cases c : mAreCrew l = true ∧ healthy l ≠ [] ∧ 0 ≤ h
  · rw [if_pos c] at hw
    have hn : 0 < (healthy l).length := List.length_pos_iff.2 c.2.1
    have hl := healthy_len l
    have h8 := ((mAreCrew_iff l).1 c.1).2
    refine ⟨(healthy l).length, hn, by omega, decide_eq_true ⟨hid, ?_⟩⟩
    unfold mWatchOf
    rw [if_pos ⟨c.1, c.2.1, by omega⟩, Int.add_emod_right]
    exact hw
  · rw [if_neg c] at hw
    exact absurd hw.symm hid
def lo (hour : Int) : Int := mx (hour - 100) 0
def back (l : List S68) (id hour : Int) : Int := backFrom (mWatches l id) hour (hour - lo hour + 1).toNat
def mSleep (l : List S68) (id hour : Int) : Int := if 0 ≤ hour ∧ hour ≤ 100000 then (if mSwap l hour id < 0 then -1 else if back l id hour < 0 then -1 else mSwap l hour id - back l id hour - 1) else -1
theorem specSl_down (l : List S68) (id hour next : Int) (hl : l.length ≤ 1048576) (hh : 0 ≤ hour ∧ hour ≤ 100000) (hid : id ≠ 0) (hn : 0 ≤ next ∧ next ≤ 200000) : ∀ (n k : Nat) (h : Int), h + 1 = lo hour + n → h ≤ hour → l.length + 2 * n + 2 < k →
    spec_SleepHours.l0 k l id hour next h = some (if backFrom (mWatches l id) h n < 0 then -1 else next - backFrom (mWatches l id) h n - 1)
  | 0, k, h, hi, h0, hk => by
    obtain ⟨k, rfl⟩ : ∃ m, k = m + 1 + 1 := ⟨k - 2, by omega⟩
    unfold lo mx at hi
    have w : wrap64 (hour - 100) = hour - 100 := wrap_id (by omega) (by omega)
    simp only [spec_SleepHours.l0, spec_SleepHours.j1, w]
    rw [show backFrom (mWatches l id) h 0 = -1 from rfl]
    by_cases c : h ≥ 0
    · rw [if_pos c, if_neg (by rw [decide_eq_true_eq]; split at hi <;> omega), if_pos (by decide)]
    · rw [if_neg c, if_neg (by decide), if_pos (by decide)]
  | n + 1, k, h, hi, h0, hk => by
    obtain ⟨k, rfl⟩ : ∃ m, k = m + 1 + 1 := ⟨k - 2, by omega⟩
    have hlo : 0 ≤ lo hour ∧ hour - 100 ≤ lo hour := by unfold lo mx; split <;> omega
    have w : wrap64 (hour - 100) = hour - 100 := wrap_id (by omega) (by omega)
    have w1 : wrap64 (wrap64 (next - h) - 1) = next - h - 1 := by rw [wrap_id (n := next - h) (by omega) (by omega), wrap_id (by omega) (by omega)]
    simp only [spec_SleepHours.l0, spec_SleepHours.j1, w, w1]
    rw [if_pos (by omega), if_pos (by rw [decide_eq_true_eq]; omega), specWatchOf_at l h hl k (by omega), wrap_id (n := h - 1) (by omega) (by omega), specSl_down l id hour next hl hh hid hn n k (h - 1) (by omega) (by omega) (by omega)]
    simp only [Option.bind_some]
    rw [backFrom_succ]
    by_cases c : mWatchOf l h = id
    · rw [if_pos c, if_pos (show mWatches l id h = true from decide_eq_true ⟨hid, c⟩), if_neg (by omega)]
    · rw [if_neg c, if_neg (show ¬ mWatches l id h = true from fun h => c (of_decide_eq_true h).2)]
theorem mSwap_range (l : List S68) (hour id : Int) : mSwap l hour id = -1 ∨ (0 ≤ hour ∧ hour ≤ 100000 ∧ hour < mSwap l hour id ∧ mSwap l hour id ≤ hour + 100 ∧ mWatches l id (mSwap l hour id) = true) := by
  unfold mSwap
  split
  · rcases firstFrom_spec (mWatches l id) 100 (hour + 1) with ⟨h1, _⟩ | ⟨j, hj, h1, h2, _⟩
    · exact .inl h1
    · rw [h1]
      exact .inr ⟨by omega, by omega, by omega, by omega, h2⟩
  · exact .inl rfl
theorem swap_id {l : List S68} {hour id : Int} (h : ¬ mSwap l hour id < 0) : id ≠ 0 := by
  rcases mSwap_range l hour id with h1 | h1
  · omega
  · exact (of_decide_eq_true h1.2.2.2.2).1
theorem specSleep_at (l : List S68) (id hour : Int) (hl : l.length ≤ 1048576) : ∀ k, l.length + 400 < k → spec_SleepHours.f k l id hour = some (mSleep l id hour) := by
  intro k hk
  simp only [spec_SleepHours.f, specSW_at l hour id hl k (by omega), Option.bind_some, mSleep]
  by_cases hh : 0 ≤ hour ∧ hour ≤ 100000
  · rw [if_pos hh]
    by_cases c : mSwap l hour id < 0
    · rw [if_pos c, if_pos c]
    · rw [if_neg c, if_neg c]
      have hr : 0 ≤ mSwap l hour id ∧ mSwap l hour id ≤ 200000 := by
        rcases mSwap_range l hour id with h1 | ⟨h1, h2, h3, h4, _⟩
        · omega
        · omega
      have hlo : 0 ≤ lo hour ∧ hour - 100 ≤ lo hour ∧ lo hour ≤ hour := by unfold lo mx; split <;> omega
      exact specSl_down l id hour _ hl hh (swap_id c) hr _ k hour (by omega) (by omega) (by omega)
  · rw [if_neg hh, if_pos (by unfold mSwap; rw [if_neg hh]; omega)]
theorem implSl_down (l : List S68) (id hour : Int) (hl : l.length ≤ 1048576) (hh : 0 ≤ hour ∧ hour ≤ 100000) : ∀ (n k : Nat) (h : Int), h + 1 = lo hour + n → h ≤ hour → l.length + n + 200 < k →
    impl_SleepHours.l0 k l id hour h = some (if backFrom (mWatches l id) h n < 0 then -1 else if mSwap l (backFrom (mWatches l id) h n) id < 0 then -1 else mSwap l (backFrom (mWatches l id) h n) id - backFrom (mWatches l id) h n - 1)
  | 0, k, h, hi, h0, hk => by
    obtain ⟨k, rfl⟩ : ∃ m, k = m + 1 := ⟨k - 1, by omega⟩
    have w : wrap64 (hour - 100) = hour - 100 := wrap_id (by omega) (by omega)
    simp only [impl_SleepHours.l0, w]
    rw [show backFrom (mWatches l id) h 0 = -1 from rfl]
    rw [if_neg (show ¬ h ≥ mx (hour - 100) 0 from by unfold lo at hi; omega), if_pos (by decide)]
  | n + 1, k, h, hi, h0, hk => by
    obtain ⟨k, rfl⟩ : ∃ m, k = m + 1 := ⟨k - 1, by omega⟩
    have hlo : 0 ≤ lo hour ∧ hour - 100 ≤ lo hour := by unfold lo mx; split <;> omega
    have w : wrap64 (hour - 100) = hour - 100 := wrap_id (by omega) (by omega)
    have hr : -1 ≤ mSwap l h id ∧ mSwap l h id ≤ 200000 := by
      rcases mSwap_range l h id with h1 | ⟨h1, h2, h3, h4, _⟩
      · omega
      · omega
    have w1 : wrap64 (wrap64 (mSwap l h id - h) - 1) = mSwap l h id - h - 1 := by rw [wrap_id (n := mSwap l h id - h) (by omega) (by omega), wrap_id (by omega) (by omega)]
    simp only [impl_SleepHours.l0, w]
    rw [if_pos (show h ≥ mx (hour - 100) 0 from by unfold lo at hi; omega), watches_at l id h hl k (by omega), implSW_at l h id hl k (by omega), wrap_id (n := h - 1) (by omega) (by omega), implSl_down l id hour hl hh n k (h - 1) (by omega) (by omega) (by omega)]
    simp only [Option.bind_some, w1]
    rw [backFrom_succ]
    by_cases c : mWatches l id h = true
    · rw [if_pos c, if_pos c]
      simp only [show ¬ h < 0 from by omega, if_false]
      split <;> rfl
    · rw [if_neg c, if_neg c]
theorem sleep_eq (l : List S68) (id hour : Int) (hh : 0 ≤ hour ∧ hour ≤ 100000) (hb : ¬ back l id hour < 0) : mSwap l (back l id hour) id = mSwap l hour id ∧ 0 ≤ mSwap l hour id := by
  have hlo : 0 ≤ lo hour ∧ hour - 100 ≤ lo hour ∧ lo hour ≤ hour := by unfold lo mx; split <;> omega
  unfold back at hb ⊢
  rcases backFrom_spec (mWatches l id) (hour - lo hour + 1).toNat hour with ⟨h1, _⟩ | ⟨j, hj, h1, h2, h3⟩
  · omega
  · rw [h1] at hb ⊢
    generalize hbb : hour - (j : Int) = b at *
    obtain ⟨m, hm1, hm8, hm⟩ := watches_period l id b (by omega) h2
    have hgt : hour < b + m := by
      refine Decidable.byContradiction fun hc => ?_
      have h4 := h3 (hour - b - m).toNat (by omega)
      rw [show hour - (((hour - b - m).toNat : Nat) : Int) = b + m from by omega, hm] at h4
      cases h4
    unfold mSwap
    rw [if_pos hh, if_pos ⟨by omega, by omega⟩]
    rcases firstFrom_spec (mWatches l id) 100 (hour + 1) with ⟨_, f2⟩ | ⟨jF, hF, f1, f2, f3⟩
    · have h4 := f2 (b + m - hour - 1).toNat (by omega)
      rw [show hour + 1 + (((b + m - hour - 1).toNat : Nat) : Int) = b + m from by omega, hm] at h4
      cases h4
    · rcases firstFrom_spec (mWatches l id) 100 (b + 1) with ⟨_, g2⟩ | ⟨jG, hG, g1, g2, g3⟩
      · have h4 := g2 (m - 1) (by omega)
        rw [show b + 1 + ((m - 1 : Nat) : Int) = b + m from by omega, hm] at h4
        cases h4
      · rw [f1, g1]
        have hFm : (jF : Int) ≤ b + m - hour - 1 := by
          refine Decidable.byContradiction fun hc => ?_
          have h4 := f3 (b + m - hour - 1).toNat (by omega)
          rw [show hour + 1 + (((b + m - hour - 1).toNat : Nat) : Int) = b + m from by omega, hm] at h4
          cases h4
        refine ⟨?_, by omega⟩
        rcases Int.lt_trichotomy (b + 1 + (jG : Int)) (hour + 1 + jF) with hlt | heq | hlt
        · exfalso
          by_cases c : b + 1 + (jG : Int) ≤ hour
          · have h4 := h3 (hour - (b + 1 + jG)).toNat (by omega)
            rw [show hour - (((hour - (b + 1 + (jG : Int))).toNat : Nat) : Int) = b + 1 + jG from by omega, g2] at h4
            cases h4
          · have h4 := f3 (b + 1 + jG - (hour + 1)).toNat (by omega)
            rw [show hour + 1 + (((b + 1 + (jG : Int) - (hour + 1)).toNat : Nat) : Int) = b + 1 + jG from by omega, g2] at h4
            cases h4
        · exact heq
        · exfalso
          have h4 := g3 (hour + 1 + jF - (b + 1)).toNat (by omega)
          rw [show b + 1 + (((hour + 1 + (jF : Int) - (b + 1)).toNat : Nat) : Int) = hour + 1 + jF from by omega, f2] at h4
          cases h4
theorem implSleep_at (l : List S68) (id hour : Int) (hl : l.length ≤ 1048576) : ∀ k, l.length + 400 < k → impl_SleepHours.f k l id hour = some (mSleep l id hour) := by
  intro k hk
  simp only [impl_SleepHours.f, InRange_eq, Option.bind_some, decide_eq_true_eq, mSleep]
  by_cases hh : 0 ≤ hour ∧ hour ≤ 100000
  · rw [if_pos hh, if_pos hh]
    have hlo : 0 ≤ lo hour ∧ hour - 100 ≤ lo hour ∧ lo hour ≤ hour := by unfold lo mx; split <;> omega
    rw [implSl_down l id hour hl hh (hour - lo hour + 1).toNat k hour (by omega) (by omega) (by omega)]
    show some (if back l id hour < 0 then -1 else if mSwap l (back l id hour) id < 0 then -1 else mSwap l (back l id hour) id - back l id hour - 1) = _
    by_cases c : back l id hour < 0
    · rw [if_pos c, if_pos c]
      split <;> rfl
    · obtain ⟨e1, e2⟩ := sleep_eq l id hour hh c
      rw [e1, if_neg c, if_neg c]
  · rw [if_neg hh, if_neg hh]
end FnExactSleepHoursPf
open FnExactSleepHoursPf
theorem FnExactSleepHours : ∀ (l0 : List S70) (a1 : Int) (a2 : Int), l0.length ≤ maxLen → (∀ y ∈ l0, (I64 y.f0 ∧ I64 y.f1 ∧ I64 y.f2 ∧ True)) → I64 a1 → I64 a2 → ∃ k, laws_FnExactSleepHours.f k l0 a1 a2 = some true := by
  intro l0 a1 a2 hl _ _ _
  apply Ev.rounds (g := fun k => laws_FnExactSleepHours.f k l0 a1 a2)
  unfold laws_FnExactSleepHours.f
  simp only [szMemberS_eq l0 1048576 hl (by omega) (by omega), Option.bind_some]
  by_cases h : (1048576 : Int) - (l0.length : Int) < 0
  · simp only [if_pos h]; exact Ev.now _
  · simp only [if_neg h]
    have hlen : (l0.map cvMember).length = l0.length := List.length_map ..
    refine Ev.bind (toMemberS_ev l0 (by omega)) ?_
    refine Ev.bind (ev_at (specSleep_at _ a1 a2 (by omega))) ?_
    refine Ev.bind (toMemberS_ev l0 (by omega)) ?_
    refine Ev.bind (ev_at (implSleep_at _ a1 a2 (by omega))) ?_
    simp only [if_true]
    refine Ev.bind (toMemberS_ev l0 (by omega)) ?_
    refine Ev.bind (eqMemberS_ev _ (by omega)) ?_
    exact Ev.now _
end Go.Proofs.Ytfccmpchpcflkaa.Pure
