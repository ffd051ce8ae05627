/- FnWatches: the pure statement of the law, over the printed functions. No condition beyond the statement's own. -/
import Derived.Test.YtfccmpchpcflkaaSFnWatchesx6
import Derived.Test.YtfccmpchpcflkaaLib
import Derived.Test.YtfccmpchpcflkaaOpens
namespace Go.Proofs.Ytfccmpchpcflkaa.Pure
open Go.RowKit Go.Proofs.Ytfccmpchpcflkaa.PFnWatches Go.Proofs.YtfccmpchpcflkaaW.PrintWords Go.Proofs.YtfccmpchpcflkaaW.PrintLast Go.Proofs.Ytfccmpchpcflkaa.Lib Go.Proofs.Ytfccmpchpcflkaa.Opens
set_option linter.unusedVariables false
set_option linter.unusedSimpArgs false
namespace FnWatchesPf
theorem InRange_eq (a b c : Int) : impl_InRange.f a b c = some (decide (b ≤ a ∧ a ≤ c)) := by
  unfold impl_InRange.f
  by_cases h : b ≤ a
  · rw [if_pos h]; simp [h]
  · rw [if_neg h]; simp [h]
def okMember (l : List S68) (i : Nat) (x : S68) : Prop := (1 ≤ x.f0 ∧ x.f0 ≤ 99) ∧ (0 ≤ x.f1 ∧ x.f1 ≤ 100) ∧ (1 ≤ x.f2 ∧ x.f2 ≤ 10) ∧ (i = 0 ∨ (l.getD (i - 1) z68).f0 < x.f0)
instance (l : List S68) (i : Nat) (x : S68) : Decidable (okMember l i x) := by unfold okMember; infer_instance
def stepAC (l : List S68) : Nat → Unit → S68 → Bool ⊕ Unit := fun i _ x => if okMember l i x then .inr () else .inl false
def mAreCrew (l : List S68) : Bool := run (stepAC l) (fun _ => decide (1 ≤ (l.length : Int) ∧ (l.length : Int) ≤ 8)) 0 () l
theorem implAC_at (l : List S68) (hl : l.length ≤ 4611686018427387904) : ∀ k, l.length < k → impl_AreCrew.f k l = some (mAreCrew l) :=
  at_loop0 (fun k _ i => impl_AreCrew.l0 k l l (l.length : Int) i) l (stepAC l) _ hl ()
    (fun k s => by simp only [impl_AreCrew.l0]; rw [if_neg (by omega)]; simp only [InRange_eq, Option.bind_some])
    (fun k s i x hx hw => by
      have hi := lt_of_get hx
      have hr : rd_T68 l (i : Int) = x := getD_of z68 hx
      simp only [impl_AreCrew.l0, hr, hw, InRange_eq, Option.bind_some, decide_eq_true_eq]; rw [if_pos (by omega), if_pos (by omega), if_pos (by omega)]
      simp only [stepAC]
      by_cases c1 : 1 ≤ x.f0 ∧ x.f0 ≤ 99
      · rw [if_pos c1]
        rcases Nat.eq_zero_or_pos i with h0 | h0
        · subst h0
          rw [if_neg (by omega)]
          by_cases c2 : 0 ≤ x.f1 ∧ x.f1 ≤ 100
          · rw [if_pos c2]
            by_cases c3 : 1 ≤ x.f2 ∧ x.f2 ≤ 10
            · rw [if_pos c3, if_pos (show okMember l _ x from ⟨c1, c2, c3, .inl rfl⟩)]; rfl
            · rw [if_neg c3, if_neg (show ¬ okMember l _ x from fun h => c3 h.2.2.1)]; rfl
          · rw [if_neg c2, if_neg (show ¬ okMember l _ x from fun h => c2 h.2.1)]; rfl
        · have hr' : rd_T68 l ((i - 1 : Nat) : Int) = l.getD (i - 1) z68 := getD_nat ..
          rw [if_pos (by omega), wrapd i h0 (by omega), if_pos (by omega), if_pos (by omega), hr']
          by_cases c4 : (l.getD (i - 1) z68).f0 < x.f0
          · rw [if_neg (by omega)]
            by_cases c2 : 0 ≤ x.f1 ∧ x.f1 ≤ 100
            · rw [if_pos c2]
              by_cases c3 : 1 ≤ x.f2 ∧ x.f2 ≤ 10
              · rw [if_pos c3, if_pos (show okMember l _ x from ⟨c1, c2, c3, .inr c4⟩)]; rfl
              · rw [if_neg c3, if_neg (show ¬ okMember l _ x from fun h => c3 h.2.2.1)]; rfl
            · rw [if_neg c2, if_neg (show ¬ okMember l _ x from fun h => c2 h.2.1)]; rfl
          · rw [if_pos (by omega), if_neg (show ¬ okMember l _ x from fun h => h.2.2.2.elim (by omega) c4)]; rfl
      · rw [if_neg c1, if_neg (show ¬ okMember l _ x from fun h => c1 h.1)]; rfl)
/-- What a crew is, member by member. -/
theorem runAC_iff (l0 : List S68) (b : Bool) : ∀ (t d : List S68), l0 = d ++ t → (run (stepAC l0) (fun _ => b) d.length () t = true ↔ (∀ i x, d.length ≤ i → l0[i]? = some x → okMember l0 i x) ∧ b = true)
  | [], d, h => by
    rw [run_nil]
    refine ⟨fun hb => ⟨fun i x hi hx => ?_, hb⟩, fun hb => hb.2⟩
    have := lt_of_get hx
    rw [h] at this
    simp at this
    omega
  | x :: t, d, h => by
    have hx : l0[d.length]? = some x := by rw [h]; simp
    by_cases c : okMember l0 d.length x
    · rw [run_inr (show stepAC l0 d.length () x = .inr () from if_pos c)]
      have ih := runAC_iff l0 b t (d ++ [x]) (by rw [h]; simp)
      rw [List.length_append, List.length_singleton] at ih
      rw [ih]
      refine ⟨fun hb => ⟨fun i y hi hy => ?_, hb.2⟩, fun hb => ⟨fun i y hi hy => hb.1 i y (by omega) hy, hb.2⟩⟩
      rcases Nat.lt_or_ge d.length i with h1 | h1
      · exact hb.1 i y (by omega) hy
      · obtain rfl : i = d.length := by omega
        rw [hx] at hy
        injection hy with hy
        exact hy ▸ c
    · rw [run_inl (show stepAC l0 d.length () x = .inl false from if_neg c)]
      exact ⟨fun hb => (by cases hb), fun hb => absurd (hb.1 d.length x (Nat.le_refl _) hx) c⟩
theorem mAreCrew_iff (l : List S68) : mAreCrew l = true ↔ (∀ i x, l[i]? = some x → okMember l i x) ∧ 1 ≤ l.length ∧ l.length ≤ 8 := by
  have h := runAC_iff l (decide (1 ≤ (l.length : Int) ∧ (l.length : Int) ≤ 8)) l [] rfl
  unfold mAreCrew
  rw [List.length_nil] at h
  rw [h, decide_eq_true_eq]
  exact ⟨fun h => ⟨fun i x hx => h.1 i x (Nat.zero_le _) hx, by omega⟩, fun h => ⟨fun i x _ hx => h.1 i x hx, by omega⟩⟩
theorem crew_member {l : List S68} (h : mAreCrew l = true) {x : S68} (hx : x ∈ l) : (1 ≤ x.f0 ∧ x.f0 ≤ 99) ∧ (0 ≤ x.f1 ∧ x.f1 ≤ 100) ∧ (1 ≤ x.f2 ∧ x.f2 ≤ 10) := by
  obtain ⟨i, hi, he⟩ := List.getElem_of_mem hx
  have := ((mAreCrew_iff l).1 h).1 i x (by rw [List.getElem?_eq_getElem hi, he])
  exact ⟨this.1, this.2.1, this.2.2.1⟩
def healthy (l : List S68) : List Int := (l.filter fun x => !x.f3).map (·.f0)
def stepH : Nat → List Int → S68 → List Int ⊕ List Int := fun _ s x => .inr (if x.f3 = true then s else s ++ [x.f0])
theorem runH : ∀ (l : List S68) (i : Nat) (s : List Int), run stepH id i s l = s ++ healthy l
  | [], i, s => by simp [run, healthy]
  | x :: t, i, s => by
    rw [run_inr (show stepH i s x = .inr (if x.f3 = true then s else s ++ [x.f0]) from rfl), runH t]
    cases hx : x.f3 <;> simp [healthy, hx]
theorem healthy_len (l : List S68) : (healthy l).length ≤ l.length := by
  unfold healthy
  rw [List.length_map]
  exact List.length_filter_le ..
theorem implHealthy_at (l : List S68) (hl : l.length ≤ 1048576) : ∀ k, l.length < k → impl_Healthy.f k l = some (healthy l) := by
  have h := at_loopI (fun k s i => impl_Healthy.l0 k s l (l.length : Int) i) l stepH id (fun i s => s.length ≤ i) (by omega) [] (by simp) 0
    (fun k s _ _ => by simp only [impl_Healthy.l0]; rw [if_neg (by omega)]; rfl)
    (fun s i x s' hI _ he => by
      simp only [stepH, Sum.inr.injEq] at he
      subst he
      split
      · omega
      · simp; omega)
    (fun k s i x _ hI hx hw => by
      have hi := lt_of_get hx
      have hr : rd_T68 l (i : Int) = x := getD_of z68 hx
      simp only [impl_Healthy.l0, hr, hw]; rw [if_pos (by omega), if_pos (by omega), if_pos (by omega), if_pos (show s.length < 17592186044416 by omega)]
      simp only [stepH, Sum.elim_inr]
      split <;> rfl)
  intro k hk
  have := h k (by omega)
  rw [runH, List.nil_append] at this
  exact this
def mWatchOf (l : List S68) (h : Int) : Int := if mAreCrew l = true ∧ healthy l ≠ [] ∧ 0 ≤ h then rd (healthy l) (h % (healthy l).length) else 0
theorem watch_arith (n : Nat) (h : Int) (hn : 0 < n) (h0 : 0 ≤ h) : Int.tmod h (n : Int) = h % (n : Int) ∧ 0 ≤ h % (n : Int) ∧ h % (n : Int) < (n : Int) :=
  ⟨Int.tmod_eq_emod_of_nonneg h0, Int.emod_nonneg _ (by omega), Int.emod_lt_of_pos _ (by omega)⟩
theorem implWatchOf_at (l : List S68) (h : Int) (hl : l.length ≤ 1048576) : ∀ k, l.length < k → impl_WatchOf.f k l h = some (mWatchOf l h) := by
  intro k hk
  simp only [impl_WatchOf.f, implHealthy_at l hl k hk, implAC_at l (by omega) k hk, Option.bind_some, mWatchOf]
  by_cases c : mAreCrew l = true
  · rw [if_pos c]
    by_cases c1 : healthy l = []
    · rw [if_pos (by simp [c1]), if_neg (fun h => h.2.1 c1)]
    · have hn : 0 < (healthy l).length := List.length_pos_iff.2 c1
      rw [if_neg (by omega)]
      by_cases c2 : h < 0
      · rw [if_pos c2, if_neg (fun h => absurd h.2.2 (by omega))]
      · obtain ⟨a1, a2, a3⟩ := watch_arith _ h hn (by omega)
        rw [if_neg c2, a1, if_pos a2, if_pos a3, if_pos ⟨c, c1, by omega⟩]
  · rw [if_neg c, if_neg (fun h => c h.1)]
def mWatches (l : List S68) (id : Int) (h : Int) : Bool := decide (id ≠ 0 ∧ mWatchOf l h = id)
theorem watches_at (l : List S68) (id h : Int) (hl : l.length ≤ 1048576) : ∀ k, l.length < k → impl_watches.f k l id h = some (mWatches l id h) := by
  intro k hk
  simp only [impl_watches.f, implWatchOf_at l h hl k hk, Option.bind_some, mWatches]
  by_cases c : id = 0
  · rw [if_pos c, decide_eq_false (fun h => h.1 c)]
  · rw [if_neg c]
    congr 1
    by_cases c2 : mWatchOf l h = id
    · simp [c, c2]
    · simp [c2]
def mWatchHours (l : List S68) (id from_ hours : Int) : Int := if (0 ≤ from_ ∧ from_ ≤ 100000) ∧ (0 ≤ hours ∧ hours ≤ 1000) then cntFrom (mWatches l id) from_ hours.toNat else 0
theorem mWatchHours_range (l : List S68) (id from_ hours : Int) : 0 ≤ mWatchHours l id from_ hours ∧ mWatchHours l id from_ hours ≤ 1000 ∧ (mWatchHours l id from_ hours = 0 ∨ mWatchHours l id from_ hours ≤ hours) := by
  unfold mWatchHours
  split
  · have := cntFrom_range (mWatches l id) from_ hours.toNat
    omega
  · omega
theorem implWH_down (l : List S68) (id from_ hours : Int) (hl : l.length ≤ 1048576) (hf : 0 ≤ from_ ∧ from_ ≤ 100000) (hh : 0 ≤ hours ∧ hours ≤ 1000) : ∀ (d i k : Nat), (i : Int) + d = hours → l.length + d + 1 < k →
    impl_WatchHours.l0 k l id from_ hours (cntFrom (mWatches l id) from_ i) (from_ + i) = some (cntFrom (mWatches l id) from_ hours.toNat)
  | 0, i, k, hi, hk => by
    obtain ⟨k, rfl⟩ : ∃ m, k = m + 1 := ⟨k - 1, by omega⟩
    simp only [impl_WatchHours.l0]
    rw [if_neg (by rw [wrap_id (by omega) (by omega)]; omega), show hours.toNat = i from by omega]
  | d + 1, i, k, hi, hk => by
    obtain ⟨k, rfl⟩ : ∃ m, k = m + 1 := ⟨k - 1, by omega⟩
    have hr := cntFrom_range (mWatches l id) from_ i
    have w1 : wrap64 (from_ + (i : Int) + 1) = from_ + i + 1 := wrap_id (by omega) (by omega)
    have w2 : wrap64 (cntFrom (mWatches l id) from_ i + 1) = cntFrom (mWatches l id) from_ i + 1 := wrap_id (by omega) (by omega)
    simp only [impl_WatchHours.l0, w1, w2]
    rw [if_pos (by rw [wrap_id (by omega) (by omega)]; omega), watches_at l id _ hl k (by omega)]
    simp only [Option.bind_some]
    have ih := implWH_down l id from_ hours hl hf hh d (i + 1) k (by omega) (by omega)
    rw [show from_ + ((i + 1 : Nat) : Int) = from_ + (i : Int) + 1 from by omega] at ih
    rw [cntFrom_succ] at ih
    by_cases c : mWatches l id (from_ + i) = true
    · rw [if_pos c]
      rw [if_pos c] at ih
      exact ih
    · rw [if_neg c]
      rw [if_neg c, Int.add_zero] at ih
      exact ih
theorem implWH_at (l : List S68) (id from_ hours : Int) (hl : l.length ≤ 1048576) : ∀ k, l.length + 1003 < k → impl_WatchHours.f k l id from_ hours = some (mWatchHours l id from_ hours) := by
  intro k hk
  obtain ⟨k, rfl⟩ : ∃ m, k = m + 1 := ⟨k - 1, by omega⟩
  simp only [impl_WatchHours.f, InRange_eq, Option.bind_some, mWatchHours]
  by_cases hf : 0 ≤ from_ ∧ from_ ≤ 100000
  · rw [if_pos (by simpa using hf)]
    by_cases hh : 0 ≤ hours ∧ hours ≤ 1000
    · rw [if_pos ⟨hf, hh⟩]
      simp only [decide_eq_true hh, Bool.not_true, impl_WatchHours.j0, Bool.false_eq_true, if_false]
      have := implWH_down l id from_ hours hl hf hh hours.toNat 0 k (by omega) (by omega)
      rw [show from_ + ((0 : Nat) : Int) = from_ from by omega] at this
      exact this
    · rw [if_neg (fun h => hh h.2), decide_eq_false hh]
      simp [impl_WatchHours.j0]
  · rw [if_neg (by simpa using hf), if_neg (fun h => hf h.1)]
    simp [impl_WatchHours.j0]
def mSwap (l : List S68) (hour id : Int) : Int := if 0 ≤ hour ∧ hour ≤ 100000 then firstFrom (mWatches l id) (hour + 1) 100 else -1
theorem implSW_down (l : List S68) (hour id : Int) (hl : l.length ≤ 1048576) (hh : 0 ≤ hour ∧ hour ≤ 100000) : ∀ (n k : Nat) (h : Int), h + n = hour + 101 → hour < h → l.length + n + 1 < k →
    impl_SwapWatch.l0 k l hour id h = some (firstFrom (mWatches l id) h n)
  | 0, k, h, hi, _, hk => by
    obtain ⟨k, rfl⟩ : ∃ m, k = m + 1 := ⟨k - 1, by omega⟩
    simp only [impl_SwapWatch.l0]
    rw [if_neg (by rw [wrap_id (by omega) (by omega)]; omega)]
    rfl
  | n + 1, k, h, hi, h0, hk => by
    obtain ⟨k, rfl⟩ : ∃ m, k = m + 1 := ⟨k - 1, by omega⟩
    simp only [impl_SwapWatch.l0]
    rw [if_pos (by rw [wrap_id (by omega) (by omega)]; omega), watches_at l id h hl k (by omega), wrap_id (n := h + 1) (by omega) (by omega), implSW_down l hour id hl hh n k (h + 1) (by omega) (by omega) (by omega)]
    simp only [Option.bind_some]
    rw [firstFrom_succ]
    split <;> rfl
theorem implSW_at (l : List S68) (hour id : Int) (hl : l.length ≤ 1048576) : ∀ k, l.length + 101 < k → impl_SwapWatch.f k l hour id = some (mSwap l hour id) := by
  intro k hk
  simp only [impl_SwapWatch.f, InRange_eq, Option.bind_some, decide_eq_true_eq, mSwap]
  by_cases h : 0 ≤ hour ∧ hour ≤ 100000
  · rw [if_pos h, if_pos h, wrap_id (by omega) (by omega)]
    exact implSW_down l hour id hl h 100 k (hour + 1) (by omega) (by omega) (by omega)
  · rw [if_neg h, if_neg h]
theorem watches_period (l : List S68) (id h : Int) (h0 : 0 ≤ h) (hw : mWatches l id h = true) : ∃ m : Nat, 1 ≤ m ∧ m ≤ 8 ∧ mWatches l id (h + m) = true := by
  obtain ⟨hid, hw⟩ := of_decide_eq_true hw
  unfold mWatchOf at hw
  by_cases c : mAreCrew l = true ∧ healthy l ≠ [] ∧ 0 ≤ h
  · rw [if_pos c] at hw
    have hn : 0 < (healthy l).length := List.length_pos_iff.2 c.2.1
    have hl := healthy_len l
    have h8 := ((mAreCrew_iff l).1 c.1).2
    refine ⟨(healthy l).length, hn, by omega, decide_eq_true ⟨hid, ?_⟩⟩
    unfold mWatchOf
    rw [if_pos ⟨c.1, c.2.1, by omega⟩, Int.add_emod_right]
    exact hw
  · rw [if_neg c] at hw
    exact absurd hw.symm hid
def lo (hour : Int) : Int := mx (hour - 100) 0
def back (l : List S68) (id hour : Int) : Int := backFrom (mWatches l id) hour (hour - lo hour + 1).toNat
def mSleep (l : List S68) (id hour : Int) : Int := if 0 ≤ hour ∧ hour ≤ 100000 then (if mSwap l hour id < 0 then -1 else if back l id hour < 0 then -1 else mSwap l hour id - back l id hour - 1) else -1
theorem mSwap_range (l : List S68) (hour id : Int) : mSwap l hour id = -1 ∨ (0 ≤ hour ∧ hour ≤ 100000 ∧ hour < mSwap l hour id ∧ mSwap l hour id ≤ hour + 100 ∧ mWatches l id (mSwap l hour id) = true) := by
  unfold mSwap
  split
  · rcases firstFrom_spec (mWatches l id) 100 (hour + 1) with ⟨h1, _⟩ | ⟨j, hj, h1, h2, _⟩
    · exact .inl h1
    · rw [h1]
      exact .inr ⟨by omega, by omega, by omega, by omega, h2⟩
  · exact .inl rfl
theorem swap_id {l : List S68} {hour id : Int} (h : ¬ mSwap l hour id < 0) : id ≠ 0 := by
  rcases mSwap_range l hour id with h1 | h1
  · omega
  · exact (of_decide_eq_true h1.2.2.2.2).1
theorem implSl_down (l : List S68) (id hour : Int) (hl : l.length ≤ 1048576) (hh : 0 ≤ hour ∧ hour ≤ 100000) : ∀ (n k : Nat) (h : Int), h + 1 = lo hour + n → h ≤ hour → l.length + n + 200 < k →
    impl_SleepHours.l0 k l id hour h = some (if backFrom (mWatches l id) h n < 0 then -1 else if mSwap l (backFrom (mWatches l id) h n) id < 0 then -1 else mSwap l (backFrom (mWatches l id) h n) id - backFrom (mWatches l id) h n - 1)
  | 0, k, h, hi, h0, hk => by
    obtain ⟨k, rfl⟩ : ∃ m, k = m + 1 := ⟨k - 1, by omega⟩
    have w : wrap64 (hour - 100) = hour - 100 := wrap_id (by omega) (by omega)
    simp only [impl_SleepHours.l0, w]
    rw [show backFrom (mWatches l id) h 0 = -1 from rfl]
    rw [if_neg (show ¬ h ≥ mx (hour - 100) 0 from by unfold lo at hi; omega), if_pos (by decide)]
  | n + 1, k, h, hi, h0, hk => by
    obtain ⟨k, rfl⟩ : ∃ m, k = m + 1 := ⟨k - 1, by omega⟩
    have hlo : 0 ≤ lo hour ∧ hour - 100 ≤ lo hour := by unfold lo mx; split <;> omega
    have w : wrap64 (hour - 100) = hour - 100 := wrap_id (by omega) (by omega)
    have hr : -1 ≤ mSwap l h id ∧ mSwap l h id ≤ 200000 := by
      rcases mSwap_range l h id with h1 | ⟨h1, h2, h3, h4, _⟩
      · omega
      · omega
    have w1 : wrap64 (wrap64 (mSwap l h id - h) - 1) = mSwap l h id - h - 1 := by rw [wrap_id (n := mSwap l h id - h) (by omega) (by omega), wrap_id (by omega) (by omega)]
    simp only [impl_SleepHours.l0, w]
    rw [if_pos (show h ≥ mx (hour - 100) 0 from by unfold lo at hi; omega), watches_at l id h hl k (by omega), implSW_at l h id hl k (by omega), wrap_id (n := h - 1) (by omega) (by omega), implSl_down l id hour hl hh n k (h - 1) (by omega) (by omega) (by omega)]
    simp only [Option.bind_some, w1]
    rw [backFrom_succ]
    by_cases c : mWatches l id h = true
    · rw [if_pos c, if_pos c]
      simp only [show ¬ h < 0 from by omega, if_false]
      split <;> rfl
    · rw [if_neg c, if_neg c]
theorem sleep_eq (l : List S68) (id hour : Int) (hh : 0 ≤ hour ∧ hour ≤ 100000) (hb : ¬ back l id hour < 0) : mSwap l (back l id hour) id = mSwap l hour id ∧ 0 ≤ mSwap l hour id := by
  have hlo : 0 ≤ lo hour ∧ hour - 100 ≤ lo hour ∧ lo hour ≤ hour := by unfold lo mx; split <;> omega
  unfold back at hb ⊢
  rcases backFrom_spec (mWatches l id) (hour - lo hour + 1).toNat hour with ⟨h1, _⟩ | ⟨j, hj, h1, h2, h3⟩
  · omega
  · rw [h1] at hb ⊢
    generalize hbb : hour - (j : Int) = b at *
    obtain ⟨m, hm1, hm8, hm⟩ := watches_period l id b (by omega) h2
    have hgt : hour < b + m := by
      refine Decidable.byContradiction fun hc => ?_
      have h4 := h3 (hour - b - m).toNat (by omega)
      rw [show hour - (((hour - b - m).toNat : Nat) : Int) = b + m from by omega, hm] at h4
      cases h4
    unfold mSwap
    rw [if_pos hh, if_pos ⟨by omega, by omega⟩]
    rcases firstFrom_spec (mWatches l id) 100 (hour + 1) with ⟨_, f2⟩ | ⟨jF, hF, f1, f2, f3⟩
    · have h4 := f2 (b + m - hour - 1).toNat (by omega)
      rw [show hour + 1 + (((b + m - hour - 1).toNat : Nat) : Int) = b + m from by omega, hm] at h4
      cases h4
    · rcases firstFrom_spec (mWatches l id) 100 (b + 1) with ⟨_, g2⟩ | ⟨jG, hG, g1, g2, g3⟩
      · have h4 := g2 (m - 1) (by omega)
        rw [show b + 1 + ((m - 1 : Nat) : Int) = b + m from by omega, hm] at h4
        cases h4
      · rw [f1, g1]
        have hFm : (jF : Int) ≤ b + m - hour - 1 := by
          refine Decidable.byContradiction fun hc => ?_
          have h4 := f3 (b + m - hour - 1).toNat (by omega)
          rw [show hour + 1 + (((b + m - hour - 1).toNat : Nat) : Int) = b + m from by omega, hm] at h4
          cases h4
        refine ⟨?_, by omega⟩
        rcases Int.lt_trichotomy (b + 1 + (jG : Int)) (hour + 1 + jF) with hlt | heq | hlt
        · exfalso
          by_cases c : b + 1 + (jG : Int) ≤ hour
          · have h4 := h3 (hour - (b + 1 + jG)).toNat (by omega)
            rw [show hour - (((hour - (b + 1 + (jG : Int))).toNat : Nat) : Int) = b + 1 + jG from by omega, g2] at h4
            cases h4
          · have h4 := f3 (b + 1 + jG - (hour + 1)).toNat (by omega)
            rw [show hour + 1 + (((b + 1 + (jG : Int) - (hour + 1)).toNat : Nat) : Int) = b + 1 + jG from by omega, g2] at h4
            cases h4
        · exact heq
        · exfalso
          have h4 := g3 (hour + 1 + jF - (b + 1)).toNat (by omega)
          rw [show b + 1 + (((hour + 1 + (jF : Int) - (b + 1)).toNat : Nat) : Int) = hour + 1 + jF from by omega, f2] at h4
          cases h4
theorem implSleep_at (l : List S68) (id hour : Int) (hl : l.length ≤ 1048576) : ∀ k, l.length + 400 < k → impl_SleepHours.f k l id hour = some (mSleep l id hour) := by
  intro k hk
  simp only [impl_SleepHours.f, InRange_eq, Option.bind_some, decide_eq_true_eq, mSleep]
  by_cases hh : 0 ≤ hour ∧ hour ≤ 100000
  · rw [if_pos hh, if_pos hh]
    have hlo : 0 ≤ lo hour ∧ hour - 100 ≤ lo hour ∧ lo hour ≤ hour := by unfold lo mx; split <;> omega
    rw [implSl_down l id hour hl hh (hour - lo hour + 1).toNat k hour (by omega) (by omega) (by omega)]
    show some (if back l id hour < 0 then -1 else if mSwap l (back l id hour) id < 0 then -1 else mSwap l (back l id hour) id - back l id hour - 1) = _
    by_cases c : back l id hour < 0
    · rw [if_pos c, if_pos c]
      split <;> rfl
    · obtain ⟨e1, e2⟩ := sleep_eq l id hour hh c
      rw [e1, if_neg c, if_neg c]
  · rw [if_neg hh, if_neg hh]
def stepFG (v : Int → Int) : Nat → Int × Int → Int → Int ⊕ (Int × Int) := fun _ s x => .inr (mn s.1 (v x), mx s.2 (v x))
def finFG (s : Int × Int) : Int := wrap64 (s.2 - s.1)
def mFairGap (l : List S68) (from_ hours : Int) : Int := match healthy l with
  | [] => 0
  | x :: t => run (stepFG fun id => mWatchHours l id from_ hours) finFG 1 (mWatchHours l x from_ hours, mWatchHours l x from_ hours) t
theorem implFG_at (l : List S68) (from_ hours : Int) (hl : l.length ≤ 1048576) : ∀ K, K = l.length + 2003 → ∀ k, l.length + K < k → impl_FairGap.f k l from_ hours = some (mFairGap l from_ hours) := by
  intro K hK k hk
  have hlen := healthy_len l
  have h := at_loop (fun k s i => impl_FairGap.l0 k l from_ hours s.1 s.2 (healthy l) ((healthy l).length : Int) i) (healthy l) (stepFG fun id => mWatchHours l id from_ hours) finFG (by omega) (1000, 0) K
    (fun k s _ => by simp only [impl_FairGap.l0]; rw [if_neg (by omega)]; rfl)
    (fun k s i x hk hx hw => by
      have hi := lt_of_get hx
      have hr : rd (healthy l) (i : Int) = x := getD_of 0 hx
      simp only [impl_FairGap.l0, hr, hw]; rw [if_pos (by omega), if_pos (by omega), if_pos (by omega), implWH_at l x from_ hours hl k (by omega)]
      simp only [Option.bind_some, stepFG, Sum.elim_inr])
  simp only [impl_FairGap.f, implHealthy_at l hl k (by omega), Option.bind_some, mFairGap]
  cases hh : healthy l with
  | nil => simp
  | cons x t =>
    rw [hh] at h hlen
    have hv := mWatchHours_range l x from_ hours
    have e : run (stepFG fun id => mWatchHours l id from_ hours) finFG 0 (1000, 0) (x :: t) = run (stepFG fun id => mWatchHours l id from_ hours) finFG 1 (mWatchHours l x from_ hours, mWatchHours l x from_ hours) t := by
      refine run_inr ?_
      show Sum.inr (mn 1000 (mWatchHours l x from_ hours), mx 0 (mWatchHours l x from_ hours)) = _
      congr 1
      refine Prod.ext ?_ ?_
      · show mn 1000 (mWatchHours l x from_ hours) = _
        unfold mn; split <;> omega
      · show mx 0 (mWatchHours l x from_ hours) = _
        unfold mx; split <;> omega
    rw [if_neg (by simp only [List.length_cons]; omega)]
    show impl_FairGap.l0 k l from_ hours 1000 0 (x :: t) _ 0 = some (run (stepFG fun id => mWatchHours l id from_ hours) finFG 1 (mWatchHours l x from_ hours, mWatchHours l x from_ hours) t)
    rw [← e]
    exact h k (by omega)
/-! What a draw gives: that it ends, and the range of what it tells. -/
def Gets {ρ : Type} (P : ρ → Prop) (g : Nat → Option ρ) : Prop := ∃ r, P r ∧ Ev g r
theorem Gets.bind {α β : Type} {P : α → Prop} {Q : β → Prop} {f : Nat → Option α} {g : Nat → α → Option β} (hf : Gets P f) (hg : ∀ r, P r → Gets Q (fun k => g k r)) : Gets Q (fun k => (f k).bind (g k)) := by
  obtain ⟨r, hr, he⟩ := hf
  obtain ⟨s, hs, he'⟩ := hg r hr
  exact ⟨s, hs, Ev.bind he he'⟩
theorem Gets.ev {α β : Type} {P : α → Prop} {f : Nat → Option α} {g : Nat → α → Option β} {b : β} (hf : Gets P f) (hg : ∀ r, P r → Ev (fun k => g k r) b) : Ev (fun k => (f k).bind (g k)) b := by
  obtain ⟨r, hr, he⟩ := hf
  exact Ev.bind he (hg r hr)
theorem Gets.now {ρ : Type} {P : ρ → Prop} {r : ρ} (h : P r) : Gets P (fun _ => some r) := ⟨r, h, Ev.now _⟩
theorem Gets.step {ρ : Type} {P : ρ → Prop} {f g : Nat → Option ρ} (h : ∀ k, g (k + 1) = f k) (hf : Gets P f) : Gets P g := by
  obtain ⟨r, hr, he⟩ := hf
  exact ⟨r, hr, Ev.step h he⟩
theorem Gets.congr {ρ : Type} {P : ρ → Prop} {f g : Nat → Option ρ} (h : ∀ k, g k = f k) (hf : Gets P f) : Gets P g := by
  have e : g = f := funext h
  rw [e]; exact hf
theorem Gets.mono {ρ : Type} {P Q : ρ → Prop} {f : Nat → Option ρ} (h : ∀ r, P r → Q r) (hf : Gets P f) : Gets Q f := by
  obtain ⟨r, hr, he⟩ := hf
  exact ⟨r, h r hr, he⟩
def OkC (b : List Int) (i : Int) : Prop := b.length ≤ 1048576 ∧ 0 ≤ i ∧ i ≤ 1048576
theorem and255 (x : Int) : 0 ≤ Go.bits .and .i64 x 255 ∧ Go.bits .and .i64 x 255 ≤ 255 := by
  have h : ((BitVec.ofInt 64 x) &&& (BitVec.ofInt 64 255)).toNat ≤ 255 := by
    rw [BitVec.toNat_and]
    exact Nat.le_trans Nat.and_le_right (by decide)
  have e : Go.bits .and .i64 x 255 = wrap64 (((BitVec.ofInt 64 x) &&& (BitVec.ofInt 64 255)).toNat : Int) := by simp only [Go.bits, i64_w]; rfl
  rw [e, wrap_id (by omega) (by omega)]
  omega
theorem byte_ok (b : List Int) (i h : Int) (hc : OkC b i) : ∃ v i' h', spec_l1Byte.f b i h = some (v, i', h') ∧ 0 ≤ v ∧ v ≤ 255 ∧ OkC b i' := by
  obtain ⟨h1, h2, h3⟩ := hc
  unfold spec_l1Byte.f
  by_cases c : i < (b.length : Int)
  · rw [if_pos c, if_pos h2, wrap_id (n := i + 1) (by omega) (by omega)]
    exact ⟨_, _, _, rfl, (and255 _).1, (and255 _).2, h1, by omega, by omega⟩
  · rw [if_neg c]
    exact ⟨_, _, _, rfl, (and255 _).1, (and255 _).2, h1, h2, h3⟩
theorem tmod_range (a n : Int) (ha : 0 ≤ a) (hn : 0 < n) : 0 ≤ Int.tmod a n ∧ Int.tmod a n < n := by
  rw [Int.tmod_eq_emod_of_nonneg ha]
  exact ⟨Int.emod_nonneg _ (by omega), Int.emod_lt_of_pos _ hn⟩
theorem below_ok (b : List Int) (i h n : Int) (hc : OkC b i) : ∃ v i' h', spec_l1Below.f b i h n = some (v, i', h') ∧ 0 ≤ v ∧ (0 < n → v < n) ∧ OkC b i' := by
  unfold spec_l1Below.f
  by_cases c : n ≤ 0
  · rw [if_pos c]
    exact ⟨_, _, _, rfl, by omega, by omega, hc⟩
  · rw [if_neg c]
    by_cases c2 : n ≤ 256
    · obtain ⟨v, i', h', e, h0, h1, hc'⟩ := byte_ok b i h hc
      rw [if_pos c2, e]
      simp only [Option.bind_some]
      rw [if_neg (by omega)]
      have := tmod_range v n h0 (by omega)
      exact ⟨_, _, _, rfl, this.1, fun _ => this.2, hc'⟩
    · obtain ⟨v1, i1, h1, e1, a1, b1, hc1⟩ := byte_ok b i h hc
      obtain ⟨v2, i2, h2, e2, a2, b2, hc2⟩ := byte_ok b i1 h1 hc1
      obtain ⟨v3, i3, h3, e3, a3, b3, hc3⟩ := byte_ok b i2 h2 hc2
      rw [if_neg c2, e1]
      simp only [Option.bind_some, e2, e3]
      rw [if_neg (by omega), wrap_id (n := v1 * 65536) (by omega) (by omega), wrap_id (n := v2 * 256) (by omega) (by omega), wrap_id (n := v1 * 65536 + v2 * 256) (by omega) (by omega), wrap_id (by omega) (by omega)]
      have := tmod_range (v1 * 65536 + v2 * 256 + v3) n (by omega) (by omega)
      exact ⟨_, _, _, rfl, this.1, fun _ => this.2, hc3⟩
theorem once_ok (b : List Int) (i h n : Int) (hc : OkC b i) : ∃ v i' h', spec_l1Once.f b i h n = some (v, i', h') ∧ OkC b i' := by
  obtain ⟨v, i', h', e, _, _, hc'⟩ := below_ok b i h n hc
  unfold spec_l1Once.f
  rw [e]
  exact ⟨_, _, _, rfl, hc'⟩
theorem int_ok (b : List Int) (i h : Int) (l : List Int) (hl : 0 < l.length) (hc : OkC b i) : ∃ v i' h', spec_l1Int.f b i h l = some (v, i', h') ∧ v ∈ l ∧ OkC b i' := by
  obtain ⟨v, i', h', e, h0, h1, hc'⟩ := below_ok b i h (l.length : Int) hc
  have h1 := h1 (by omega)
  unfold spec_l1Int.f
  rw [e]
  simp only [Option.bind_some]
  rw [if_pos h0, if_pos h1]
  refine ⟨_, _, _, rfl, ?_, hc'⟩
  have : v.toNat < l.length := by omega
  simp only [rd, List.getD_eq_getElem?_getD, List.getElem?_eq_getElem this, Option.getD_some]
  exact List.getElem_mem _
theorem new_down (b : List Int) (hb : b.length ≤ 1048576) : ∀ (n i : Nat) (h : Int), i + n = b.length → ∃ h', Ev (fun k => spec_l1New.l0 k b h (i : Int)) (b, 0, h')
  | 0, i, h, hi => ⟨h, Ev.step (f := fun _ => some (b, 0, h)) (fun k => by simp only [spec_l1New.l0]; rw [if_neg (by omega)]) (Ev.now _)⟩
  | n + 1, i, h, hi => by
    by_cases c : (i : Int) < 4000
    · obtain ⟨h', ih⟩ := new_down b hb n (i + 1) (Go.bits .and .i64 (wrap64 ((wrap64 ((wrap64 (h * 137)) + (wrap64 (rd b (i : Int))))) + 11)) 1073741823) (by omega)
      refine ⟨h', Ev.step (f := fun k => spec_l1New.l0 k b (Go.bits .and .i64 (wrap64 ((wrap64 ((wrap64 (h * 137)) + (wrap64 (rd b (i : Int))))) + 11)) 1073741823) ((i + 1 : Nat) : Int)) (fun k => ?_) ih⟩
      simp only [spec_l1New.l0, wrapi i (by omega)]
      rw [if_pos (by omega), if_pos c, if_pos (by omega), Int.natCast_add, Int.natCast_one]
    · refine ⟨h, Ev.step (f := fun _ => some (b, 0, h)) (fun k => ?_) (Ev.now _)⟩
      simp only [spec_l1New.l0]
      rw [if_pos (by omega), if_neg c]
theorem new_ok (b : List Int) (hb : b.length ≤ 1048576) : Gets (fun r => r.1 = b ∧ OkC r.1 r.2.1) (fun k => spec_l1New.f k b) := by
  obtain ⟨h', he⟩ := new_down b hb b.length 0 (wrap64 (193017 + (b.length : Int))) (by omega)
  exact ⟨(b, 0, h'), ⟨rfl, hb, Int.le_refl 0, show (0 : Int) ≤ 1048576 by decide⟩, he⟩
/-- The drawn crew: Ids 1, 2, .. in order, hunger 0..8, trust 1. -/
def Crew16 (l : List S68) : Prop := l.length ≤ 9 ∧ ∀ (i : Nat) (x : S68), l[i]? = some x → x.f0 = (i : Int) + 1 ∧ (0 ≤ x.f1 ∧ x.f1 ≤ 8) ∧ x.f2 = 1
theorem crew16_push {l : List S68} (h : Crew16 l) (hl : l.length ≤ 8) (a b : Int) (f : Bool) (ha : a = (l.length : Int) + 1) (hb : 0 ≤ b ∧ b ≤ 8) : Crew16 (l ++ [⟨a, b, 1, f⟩]) := by
  refine ⟨by simp; omega, fun i x hx => ?_⟩
  rw [List.getElem?_append] at hx
  split at hx
  · exact h.2 i x hx
  · rename_i hi
    have : i - l.length = 0 := by
      refine Decidable.byContradiction fun hne => ?_
      rw [List.getElem?_eq_none (by simp; omega)] at hx
      cases hx
    rw [this] at hx
    simp only [List.getElem?_cons_zero, Option.some.injEq] at hx
    subst hx
    exact ⟨by show a = _; omega, hb, rfl⟩
theorem crew_down (b : List Int) : ∀ (n : Nat) (xs : List S68) (i h : Int), xs.length + n = 9 → Crew16 xs → OkC b i →
    Gets (fun r => (Crew16 r.1 ∧ xs.length ≤ r.1.length ∧ (xs.length = 0 → 0 < r.1.length)) ∧ OkC b r.2.1) (fun k => spec_l16Crew.l0 k xs ((xs.length : Int) + 1) b i h)
  | 0, xs, i, h, hn, hx, hc => by
    obtain ⟨v, i', h', e, v0, v1, hc'⟩ := below_ok b i h 8 hc
    have v1 := v1 (by omega)
    refine Gets.step (f := fun _ => some (xs, i', h')) (fun k => ?_) (Gets.now ⟨⟨hx, Nat.le_refl _, fun h0 => by omega⟩, hc'⟩)
    simp only [spec_l16Crew.l0, e, Option.bind_some]
    rw [wrap_id (n := 1 + v) (by omega) (by omega), if_neg (by omega)]
  | n + 1, xs, i, h, hn, hx, hc => by
    obtain ⟨v, i', h', e, v0, v1, hc'⟩ := below_ok b i h 8 hc
    have v1 := v1 (by omega)
    by_cases c : (xs.length : Int) + 1 ≤ 1 + v
    · obtain ⟨v2, i2, h2, e2, a2, b2, hc2⟩ := below_ok b i' h' 9 hc'
      have b2 := b2 (by omega)
      obtain ⟨v3, i3, h3, e3, hc3⟩ := once_ok b i2 h2 6 hc2
      have ih := crew_down b n (xs ++ [⟨(xs.length : Int) + 1, v2, 1, v3⟩]) i3 h3 (by simp; omega) (crew16_push hx (by omega) _ _ _ rfl ⟨a2, by omega⟩) hc3
      rw [List.length_append, List.length_singleton] at ih
      refine Gets.step (f := fun k => spec_l16Crew.l0 k (xs ++ [⟨(xs.length : Int) + 1, v2, 1, v3⟩]) (((xs.length + 1 : Nat) : Int) + 1) b i3 h3) (fun k => ?_) (Gets.mono (fun r hr => ⟨⟨hr.1.1, by omega, fun _ => by omega⟩, hr.2⟩) ih)
      simp only [spec_l16Crew.l0, e, e2, e3, Option.bind_some]
      rw [wrap_id (n := 1 + v) (by omega) (by omega), if_pos c, if_pos (by omega), wrap_id (by omega) (by omega), Int.natCast_add, Int.natCast_one]
    · refine Gets.step (f := fun _ => some (xs, i', h')) (fun k => ?_) (Gets.now ⟨⟨hx, Nat.le_refl _, fun h0 => by omega⟩, hc'⟩)
      simp only [spec_l16Crew.l0, e, Option.bind_some]
      rw [wrap_id (n := 1 + v) (by omega) (by omega), if_neg c]
theorem crew_ok (b : List Int) (i h : Int) (hc : OkC b i) : Gets (fun r => (Crew16 r.1 ∧ 0 < r.1.length) ∧ OkC b r.2.1) (fun k => spec_l16Crew.f k b i h) := by
  have := crew_down b 9 [] i h rfl ⟨by simp, fun i x hx => by simp at hx⟩ hc
  exact Gets.mono (fun r hr => ⟨⟨hr.1.1, hr.1.2.2 rfl⟩, hr.2⟩) this
theorem draw7_down (b : List Int) : ∀ (n : Nat) (xs : List S68) (i h : Int), xs.length + n = 9 → OkC b i →
    Gets (fun r => (r.1.length ≤ 9 ∧ xs.length ≤ r.1.length ∧ (xs.length = 0 → 0 < r.1.length)) ∧ OkC b r.2.1) (fun k => spec_l7Draw.l0 k xs ((xs.length : Int) + 1) b i h)
  | 0, xs, i, h, hn, hc => by
    obtain ⟨v, i', h', e, v0, v1, hc'⟩ := below_ok b i h 4 hc
    have v1 := v1 (by omega)
    refine Gets.step (f := fun _ => some (xs, i', h')) (fun k => ?_) (Gets.now ⟨⟨by show xs.length ≤ 9; omega, Nat.le_refl _, fun h0 => by omega⟩, hc'⟩)
    simp only [spec_l7Draw.l0, e, Option.bind_some]
    rw [wrap_id (n := 1 + v) (by omega) (by omega), if_neg (by omega)]
  | n + 1, xs, i, h, hn, hc => by
    obtain ⟨v, i', h', e, v0, v1, hc'⟩ := below_ok b i h 4 hc
    have v1 := v1 (by omega)
    by_cases c : (xs.length : Int) + 1 ≤ 1 + v
    · obtain ⟨v2, i2, h2, e2, a2, b2, hc2⟩ := below_ok b i' h' 20 hc'
      obtain ⟨v4, i4, h4, e4, a4, b4, hc4⟩ := below_ok b i2 h2 3 hc2
      obtain ⟨v3, i3, h3, e3, hc3⟩ := once_ok b i4 h4 8 hc4
      have ih := draw7_down b n (xs ++ [⟨wrap64 (2 * ((xs.length : Int) + 1)), wrap64 (5 + v2), wrap64 (1 + v4), v3⟩]) i3 h3 (by simp; omega) hc3
      rw [List.length_append, List.length_singleton] at ih
      refine Gets.step (f := fun k => spec_l7Draw.l0 k (xs ++ [⟨wrap64 (2 * ((xs.length : Int) + 1)), wrap64 (5 + v2), wrap64 (1 + v4), v3⟩]) (((xs.length + 1 : Nat) : Int) + 1) b i3 h3) (fun k => ?_) (Gets.mono (fun r hr => ⟨⟨hr.1.1, by omega, fun _ => by omega⟩, hr.2⟩) ih)
      simp only [spec_l7Draw.l0, e, e2, e3, e4, Option.bind_some]
      rw [wrap_id (n := 1 + v) (by omega) (by omega), if_pos c, if_pos (by omega), wrap_id (n := (xs.length : Int) + 1 + 1) (by omega) (by omega), Int.natCast_add, Int.natCast_one]
    · refine Gets.step (f := fun _ => some (xs, i', h')) (fun k => ?_) (Gets.now ⟨⟨by show xs.length ≤ 9; omega, Nat.le_refl _, fun h0 => by omega⟩, hc'⟩)
      simp only [spec_l7Draw.l0, e, Option.bind_some]
      rw [wrap_id (n := 1 + v) (by omega) (by omega), if_neg c]
theorem draw7_ok (b : List Int) (i h : Int) (hc : OkC b i) : Gets (fun r => (r.1.length ≤ 9 ∧ 0 < r.1.length) ∧ OkC b r.2.1) (fun k => spec_l7Draw.f k b i h) := by
  have := draw7_down b 9 [] i h rfl hc
  exact Gets.mono (fun r hr => ⟨⟨hr.1.1, hr.1.2.2 rfl⟩, hr.2⟩) this
theorem any7_ok (b : List Int) (i h : Int) (hc : OkC b i) : Gets (fun r => r.1.length ≤ 9 ∧ OkC b r.2.1) (fun k => spec_l7Any.f k b i h) := by
  unfold spec_l7Any.f
  refine Gets.bind (draw7_ok b i h hc) ?_
  rintro ⟨xs, i1, h1⟩ ⟨⟨hx, hx0⟩, hc1⟩
  simp only at hx hx0 hc1 ⊢
  obtain ⟨v, i2, h2, e2, v0, v1, hc2⟩ := below_ok b i1 h1 (xs.length : Int) hc1
  have v1 := v1 (by omega)
  obtain ⟨u, i3, h3, e3, u0, u1, hc3⟩ := below_ok b i2 h2 12 hc2
  simp only [e2, e3, Option.bind_some]
  by_cases c0 : u = 0
  · obtain ⟨w, i4, h4, e4, _, hc4⟩ := int_ok b i3 h3 [0, 2, 99, 100] (by decide) hc3
    simp only [if_pos c0, e4, Option.bind_some, if_pos v0, if_pos v1]
    exact Gets.now ⟨by rw [List.length_set]; exact hx, hc4⟩
  · simp only [if_neg c0]
    by_cases c1 : u = 1
    · obtain ⟨w, i4, h4, e4, _, hc4⟩ := int_ok b i3 h3 [-1, 100, 101] (by decide) hc3
      simp only [if_pos c1, e4, Option.bind_some, if_pos v0, if_pos v1]
      exact Gets.now ⟨by rw [List.length_set]; exact hx, hc4⟩
    · simp only [if_neg c1]
      by_cases c2 : u = 2
      · obtain ⟨w, i4, h4, e4, _, hc4⟩ := int_ok b i3 h3 [0, 10, 11] (by decide) hc3
        simp only [if_pos c2, e4, Option.bind_some, if_pos v0, if_pos v1]
        exact Gets.now ⟨by rw [List.length_set]; exact hx, hc4⟩
      · simp only [if_neg c2]
        by_cases c3 : u = 3
        · simp only [if_pos c3]
          exact Gets.now ⟨by simp, hc3⟩
        · simp only [if_neg c3]
          exact Gets.now ⟨hx, hc3⟩
theorem drawWatchOf_ok (b : List Int) (hb : b.length ≤ 1048576) : Gets (fun r => r.1.length ≤ 9) (fun k => spec_DrawWatchOf.f k b) := by
  unfold spec_DrawWatchOf.f
  refine Gets.bind (new_ok b hb) ?_
  rintro ⟨b', i1, h1⟩ ⟨rfl, hc1⟩
  simp only at hc1 ⊢
  refine Gets.bind (crew_ok b' i1 h1 hc1) ?_
  rintro ⟨xs, i2, h2⟩ ⟨⟨hx, hx0⟩, hc2⟩
  simp only at hx hx0 hc2 ⊢
  obtain ⟨u, i3, h3, e3, hc3⟩ := once_ok b' i2 h2 9 hc2
  simp only [e3, Option.bind_some]
  cases u with
  | true =>
    simp only [if_true]
    refine Gets.bind (any7_ok b' i3 h3 hc3) ?_
    rintro ⟨ys, i4, h4⟩ ⟨hy, hc4⟩
    simp only at hy hc4 ⊢
    obtain ⟨v5, i5, h5, e5, _, _, hc5⟩ := below_ok b' i4 h4 40 hc4
    obtain ⟨v6, i6, h6, e6, _, _, hc6⟩ := below_ok b' i5 h5 40 hc5
    obtain ⟨v7, i7, h7, e7, _, hc7⟩ := int_ok b' i6 h6 [v5, v6, 0, 100000, -1] (by simp) hc6
    simp only [e5, e6, e7, Option.bind_some]
    exact Gets.now hy
  | false =>
    simp only [Bool.false_eq_true, if_false]
    obtain ⟨v5, i5, h5, e5, _, _, hc5⟩ := below_ok b' i3 h3 40 hc3
    obtain ⟨v6, i6, h6, e6, _, _, hc6⟩ := below_ok b' i5 h5 40 hc5
    obtain ⟨v7, i7, h7, e7, _, hc7⟩ := int_ok b' i6 h6 [v5, v6, 0, 100000, -1] (by simp) hc6
    simp only [e5, e6, e7, Option.bind_some]
    exact Gets.now hx.1
theorem drawWatchHours_ok (b : List Int) (hb : b.length ≤ 1048576) : Gets (fun r => r.1.length ≤ 9) (fun k => spec_DrawWatchHours.f k b) := by
  unfold spec_DrawWatchHours.f
  refine Gets.bind (drawWatchOf_ok b hb) ?_
  intro r hr
  refine Gets.bind (new_ok b hb) ?_
  rintro ⟨b', i1, h1⟩ ⟨rfl, hc1⟩
  simp only at hc1 ⊢
  obtain ⟨v5, i5, h5, e5, _, _, hc5⟩ := below_ok b' i1 h1 10 hc1
  obtain ⟨v7, i7, h7, e7, _, hc7⟩ := int_ok b' i5 h5 [0, 1, 7, 24, 1000, 1001] (by simp) hc5
  simp only [e5, e7, Option.bind_some]
  exact Gets.now hr
theorem drawFairGap_ok (b : List Int) (hb : b.length ≤ 1048576) : Gets (fun r => r.1.length ≤ 9) (fun k => spec_DrawFairGap.f k b) := by
  unfold spec_DrawFairGap.f
  refine Gets.bind (drawWatchHours_ok b hb) ?_
  intro r hr
  exact Gets.now hr
theorem drawSwapWatch_ok (b : List Int) (hb : b.length ≤ 1048576) : Gets (fun r => r.1.length ≤ 9) (fun k => spec_DrawSwapWatch.f k b) := by
  unfold spec_DrawSwapWatch.f
  refine Gets.bind (drawWatchOf_ok b hb) ?_
  intro r hr
  refine Gets.bind (new_ok b hb) ?_
  rintro ⟨b', i1, h1⟩ ⟨rfl, hc1⟩
  simp only at hc1 ⊢
  obtain ⟨v5, i5, h5, e5, _, _, hc5⟩ := below_ok b' i1 h1 10 hc1
  simp only [e5, Option.bind_some]
  exact Gets.now hr
theorem crew_lt {l : List S68} (h : mAreCrew l = true) : ∀ (d i : Nat) (x y : S68), l[i]? = some x → l[i + d + 1]? = some y → x.f0 < y.f0
  | 0, i, x, y, hx, hy => by
    have hk := (((mAreCrew_iff l).1 h).1 (i + 0 + 1) y hy).2.2.2
    rcases hk with hk | hk
    · omega
    · rw [show i + 0 + 1 - 1 = i from by omega, getD_get z68 hx] at hk
      exact hk
  | d + 1, i, x, y, hx, hy => by
    have hi := lt_of_get hy
    obtain ⟨z, hz⟩ : ∃ z, l[i + d + 1]? = some z := ⟨l[i + d + 1]'(by omega), List.getElem?_eq_getElem _⟩
    have h1 := crew_lt h d i x z hx hz
    have hk := (((mAreCrew_iff l).1 h).1 (i + (d + 1) + 1) y hy).2.2.2
    rcases hk with hk | hk
    · omega
    · rw [show i + (d + 1) + 1 - 1 = i + d + 1 from by omega, getD_get z68 hz] at hk
      omega
theorem healthy_lt {l : List S68} (h : mAreCrew l = true) : (healthy l).Pairwise (· < ·) := by
  unfold healthy
  rw [List.pairwise_map]
  refine List.Pairwise.filter _ ?_
  rw [List.pairwise_iff_getElem]
  intro i j hi hj hij
  exact crew_lt h (j - i - 1) i _ _ (List.getElem?_eq_getElem hi) (by rw [show i + (j - i - 1) + 1 = j from by omega]; exact List.getElem?_eq_getElem hj)
theorem healthy_pos {l : List S68} (h : mAreCrew l = true) {x : Int} (hx : x ∈ healthy l) : 1 ≤ x := by
  unfold healthy at hx
  obtain ⟨y, hy, rfl⟩ := List.mem_map.1 hx
  exact (crew_member h (List.mem_filter.1 hy).1).1.1
theorem watchOf_mem {l : List S68} {h : Int} (c : mAreCrew l = true ∧ healthy l ≠ [] ∧ 0 ≤ h) : mWatchOf l h ∈ healthy l := by
  unfold mWatchOf
  rw [if_pos c]
  have hn : 0 < (healthy l).length := List.length_pos_iff.2 c.2.1
  obtain ⟨_, a2, a3⟩ := watch_arith _ h hn c.2.2
  have h' : (h % ((healthy l).length : Int)).toNat < (healthy l).length := by omega
  simp only [rd, List.getD_eq_getElem?_getD, List.getElem?_eq_getElem h', Option.getD_some]
  exact List.getElem_mem _
theorem watchOf_zero (l : List S68) (h : Int) : mWatchOf l h = 0 ↔ ¬ (mAreCrew l = true ∧ healthy l ≠ [] ∧ 0 ≤ h) := by
  constructor
  · intro e c
    have := healthy_pos c.1 (watchOf_mem c)
    omega
  · intro c
    unfold mWatchOf
    rw [if_neg c]
def fm (n j x : Int) : Int := (x + n - 1 - j) / n
theorem fm_step (n : Nat) (j x : Int) (hn : 1 ≤ n ∧ n ≤ 8) (hj : 0 ≤ j ∧ j < n) : fm n j (x + 1) - fm n j x = if x % (n : Int) = j then 1 else 0 := by
  unfold fm
  obtain rfl | rfl | rfl | rfl | rfl | rfl | rfl | rfl : n = 1 ∨ n = 2 ∨ n = 3 ∨ n = 4 ∨ n = 5 ∨ n = 6 ∨ n = 7 ∨ n = 8 := by omega
  all_goals (split <;> omega)
theorem fm_range (n : Nat) (j x : Int) (t : Nat) (hn : 1 ≤ n ∧ n ≤ 8) (hj : 0 ≤ j ∧ j < n) : (t : Int) / n ≤ fm n j (x + t) - fm n j x ∧ fm n j (x + t) - fm n j x ≤ (t : Int) / n + 1 := by
  unfold fm
  obtain rfl | rfl | rfl | rfl | rfl | rfl | rfl | rfl : n = 1 ∨ n = 2 ∨ n = 3 ∨ n = 4 ∨ n = 5 ∨ n = 6 ∨ n = 7 ∨ n = 8 := by omega
  all_goals omega
theorem cnt_fm (p : Int → Bool) (n : Nat) (j x : Int) (hn : 1 ≤ n ∧ n ≤ 8) (hj : 0 ≤ j ∧ j < n) (hp : ∀ i : Nat, p (x + i) = decide ((x + i) % (n : Int) = j)) : ∀ t : Nat, cntFrom p x t = fm n j (x + t) - fm n j x
  | 0 => by
    rw [show x + ((0 : Nat) : Int) = x from by omega]
    show (0 : Int) = _
    omega
  | t + 1 => by
    rw [cntFrom_succ, cnt_fm p n j x hn hj hp t, hp t]
    have h := fm_step n j (x + t) hn hj
    rw [show x + ((t + 1 : Nat) : Int) = x + t + 1 from by omega]
    by_cases c : (x + (t : Int)) % (n : Int) = j
    · rw [if_pos c] at h
      rw [if_pos (decide_eq_true c)]
      omega
    · rw [if_neg c] at h
      rw [if_neg (by rw [decide_eq_true_eq]; exact c)]
      omega
theorem hours_near (l : List S68) (from_ hours : Int) : ∃ m : Int, 0 ≤ m ∧ m ≤ 1000 ∧ ∀ x ∈ healthy l, m ≤ mWatchHours l x from_ hours ∧ mWatchHours l x from_ hours ≤ m + 1 := by
  by_cases h : (0 ≤ from_ ∧ from_ ≤ 100000) ∧ (0 ≤ hours ∧ hours ≤ 1000)
  · by_cases c : mAreCrew l = true
    · by_cases c1 : healthy l = []
      · exact ⟨0, by omega, by omega, fun x hx => by rw [c1] at hx; cases hx⟩
      · have hn : 0 < (healthy l).length := List.length_pos_iff.2 c1
        have h8 := ((mAreCrew_iff l).1 c).2
        have hl := healthy_len l
        have hq : (hours.toNat : Int) / ((healthy l).length : Int) ≤ 1000 ∧ 0 ≤ (hours.toNat : Int) / ((healthy l).length : Int) :=
          ⟨Int.le_trans (Int.ediv_le_self _ (by omega)) (by omega), Int.ediv_nonneg (by omega) (by omega)⟩
        refine ⟨(hours.toNat : Int) / ((healthy l).length : Int), hq.2, hq.1, fun x hx => ?_⟩
        obtain ⟨j, hj, rfl⟩ := List.getElem_of_mem hx
        have hpw := List.pairwise_iff_getElem.1 (healthy_lt c)
        unfold mWatchHours
        rw [if_pos h]
        have hp : ∀ i : Nat, mWatches l (healthy l)[j] (from_ + i) = decide ((from_ + i) % ((healthy l).length : Int) = (j : Int)) := by
          intro i
          obtain ⟨_, a2, a3⟩ := watch_arith _ (from_ + i) hn (by omega)
          have h' : ((from_ + i) % ((healthy l).length : Int)).toNat < (healthy l).length := by omega
          have hpos := healthy_pos c hx
          have e : mWatchOf l (from_ + i) = (healthy l)[((from_ + i) % ((healthy l).length : Int)).toNat] := by
            unfold mWatchOf
            rw [if_pos ⟨c, c1, by omega⟩]
            simp only [rd, List.getD_eq_getElem?_getD, List.getElem?_eq_getElem h', Option.getD_some]
          unfold mWatches
          rw [e]
          refine decide_eq_decide.2 ⟨fun ⟨_, he⟩ => ?_, fun he => ⟨by omega, ?_⟩⟩
          · rcases Nat.lt_trichotomy ((from_ + i) % ((healthy l).length : Int)).toNat j with q | q | q
            · have := hpw _ _ h' hj q
              omega
            · omega
            · have := hpw _ _ hj h' q
              omega
          · have : ((from_ + i) % ((healthy l).length : Int)).toNat = j := by omega
            simp only [this]
        rw [cnt_fm _ (healthy l).length (j : Int) from_ ⟨hn, by omega⟩ ⟨by omega, by omega⟩ hp hours.toNat]
        exact fm_range _ _ _ _ ⟨hn, by omega⟩ ⟨by omega, by omega⟩
    · refine ⟨0, by omega, by omega, fun x hx => ?_⟩
      have e : mWatchHours l x from_ hours = 0 := by
        unfold mWatchHours
        rw [if_pos h]
        refine cntFrom_none _ _ (fun i => ?_) _
        have : mWatchOf l (from_ + i) = 0 := (watchOf_zero l _).2 (fun hh => c hh.1)
        unfold mWatches
        rw [this]
        exact decide_eq_false (fun hh => hh.1 hh.2.symm)
      omega
  · refine ⟨0, by omega, by omega, fun x hx => ?_⟩
    have e : mWatchHours l x from_ hours = 0 := by
      unfold mWatchHours
      rw [if_neg h]
    omega
theorem runFG_near (v : Int → Int) (m : Int) (hm : 0 ≤ m ∧ m ≤ 1000) : ∀ (t : List Int) (i : Nat) (s : Int × Int), (m ≤ s.1 ∧ s.1 ≤ m + 1) → (m ≤ s.2 ∧ s.2 ≤ m + 1) → (∀ x ∈ t, m ≤ v x ∧ v x ≤ m + 1) → run (stepFG v) finFG i s t ≤ 1
  | [], i, s, h1, h2, _ => by
    show wrap64 (s.2 - s.1) ≤ 1
    rw [wrap_id (by omega) (by omega)]
    omega
  | x :: t, i, s, h1, h2, h => by
    have hx := h x (List.mem_cons_self ..)
    rw [run_inr (show stepFG v i s x = .inr (mn s.1 (v x), mx s.2 (v x)) from rfl)]
    refine runFG_near v m hm t (i + 1) _ ?_ ?_ (fun y hy => h y (List.mem_cons_of_mem _ hy))
    · show m ≤ mn s.1 (v x) ∧ mn s.1 (v x) ≤ m + 1
      unfold mn
      split <;> omega
    · show m ≤ mx s.2 (v x) ∧ mx s.2 (v x) ≤ m + 1
      unfold mx
      split <;> omega
theorem fairGap_le (l : List S68) (from_ hours : Int) : mFairGap l from_ hours ≤ 1 := by
  obtain ⟨m, h0, h1, h⟩ := hours_near l from_ hours
  unfold mFairGap
  split
  · omega
  · rename_i x t hh
    rw [hh] at h
    have hx := h x (List.mem_cons_self ..)
    exact runFG_near _ m ⟨h0, h1⟩ t 1 _ hx hx (fun y hy => h y (List.mem_cons_of_mem _ hy))
theorem contains_at (l : List Int) (n : Int) (hl : l.length ≤ 1048577) : ∀ k, l.length < k → laws_contains.f k l n = some (decide (n ∈ l)) := by
  have h := at_loop0 (fun k _ i => laws_contains.l0 k l n i) l (stepHas n) (fun _ => false) (by omega) ()
    (fun k s => by simp only [laws_contains.l0]; rw [if_neg (by omega)])
    (fun k s i x hx hw => by
      have hi := lt_of_get hx
      have hr : rd l (i : Int) = x := getD_of 0 hx
      simp only [laws_contains.l0, hr, hw]; rw [if_pos (by omega), if_pos (by omega)]
      simp only [stepHas]
      split <;> rfl)
  intro k hk
  have := h k hk
  rw [run_has] at this
  exact this
theorem fw_j1 (l0 : List Int) (hb : l0.length ≤ 1048576) : Ev (fun k => laws_FnWatches.j1 k l0 false) true := by
  refine Ev.step (f := fun k => (spec_DrawSwapWatch.f k l0).bind fun bt336 => ((impl_SwapWatch.f k bt336.1 bt336.2.1 bt336.2.2).bind fun t341 => (if t341 = (-1) then (some true) else (if t341 > bt336.2.1 then ((impl_WatchOf.f k bt336.1 t341).bind fun t342 => (if t342 = bt336.2.2 then ((impl_SleepHours.f k bt336.1 bt336.2.2 bt336.2.1).bind fun t343 => (some (decide (t343 ≤ (wrap64 (t341 - 1)))))) else (some false))) else (some false))))) (fun k => by simp only [laws_FnWatches.j1, Bool.false_eq_true, if_false]) ?_
  refine Gets.ev (drawSwapWatch_ok l0 hb) ?_
  rintro ⟨c, e, who⟩ hc
  simp only at hc ⊢
  refine Ev.bind (ev_at (implSW_at c e who (by omega))) ?_
  rcases mSwap_range c e who with h | ⟨h1, h2, h3, h4, h5⟩
  · simp only [if_pos h]
    exact Ev.now _
  · simp only [if_neg (show ¬ mSwap c e who = -1 from by omega), if_pos (show mSwap c e who > e from h3)]
    refine Ev.bind (ev_at (implWatchOf_at c _ (by omega))) ?_
    simp only [if_pos (of_decide_eq_true h5).2]
    refine Ev.bind (ev_at (implSleep_at c who e (by omega))) ?_
    have : mSleep c who e ≤ wrap64 (mSwap c e who - 1) := by
      rw [wrap_id (by omega) (by omega)]
      unfold mSleep
      rw [if_pos ⟨h1, h2⟩]
      split
      · omega
      · split <;> omega
    simp only [decide_eq_true this]
    exact Ev.now _
theorem fw_j0 (l0 : List Int) (hb : l0.length ≤ 1048576) : Ev (fun k => laws_FnWatches.j0 k l0 false) true := by
  refine Ev.step (f := fun k => (spec_DrawWatchHours.f k l0).bind fun bt329 => ((impl_WatchHours.f k bt329.1 bt329.2.1 bt329.2.2.1 bt329.2.2.2).bind fun t335 => (if t335 < 0 then (laws_FnWatches.j1 k l0 true) else (if t335 > 0 then (laws_FnWatches.j1 k l0 (decide (t335 > bt329.2.2.2))) else (laws_FnWatches.j1 k l0 false))))) (fun k => by simp only [laws_FnWatches.j0, Bool.false_eq_true, if_false]) ?_
  refine Gets.ev (drawWatchHours_ok l0 hb) ?_
  rintro ⟨c, id, f, n⟩ hc
  simp only at hc ⊢
  refine Ev.bind (ev_at (implWH_at c id f n (by omega))) ?_
  obtain ⟨h1, h2, h3⟩ := mWatchHours_range c id f n
  simp only [if_neg (show ¬ mWatchHours c id f n < 0 from by omega)]
  by_cases h : mWatchHours c id f n > 0
  · simp only [if_pos h, decide_eq_false (show ¬ mWatchHours c id f n > n from by omega)]
    exact fw_j1 l0 hb
  · simp only [if_neg h]
    exact fw_j1 l0 hb
end FnWatchesPf
open FnWatchesPf
theorem FnWatches : laws_FnWatches.Pure := by
  intro l0 hl hs hw
  apply Ev.rounds (g := fun k => laws_FnWatches.f k l0)
  unfold laws_FnWatches.f
  simp only [laws_big.f, Option.bind_some, decide_eq_true_eq]
  by_cases hb : (l0.length : Int) > 1048576
  · simp only [if_pos hb]
    exact Ev.now _
  · simp only [if_neg hb]
    have hb : l0.length ≤ 1048576 := by omega
    refine Gets.ev (drawFairGap_ok l0 hb) ?_
    rintro ⟨c, f, n⟩ hc
    simp only at hc ⊢
    refine Ev.bind (ev_at (implFG_at c f n (by omega) _ rfl)) ?_
    have hg := fairGap_le c f n
    simp only [if_neg (show ¬ mFairGap c f n > 1 from by omega)]
    refine Gets.ev (drawWatchOf_ok l0 hb) ?_
    rintro ⟨a, h⟩ ha
    simp only at ha ⊢
    refine Ev.bind (ev_at (implWatchOf_at a h (by omega))) ?_
    refine Ev.bind (ev_at (implAC_at a (by omega))) ?_
    have hz := watchOf_zero a h
    by_cases c1 : mAreCrew a = true
    · simp only [if_pos c1]
      refine Ev.bind (ev_at (implHealthy_at a (by omega))) ?_
      by_cases c2 : healthy a = []
      · have h0 : mWatchOf a h = 0 := hz.2 (fun q => q.2.1 c2)
        simp only [if_neg (show ¬ (((healthy a).length : Int) > 0) from by rw [c2]; decide), h0]
        simp only [bne_self_eq_false, Bool.false_eq_true, if_false, if_true]
        exact fw_j0 l0 hb
      · have hn : 0 < (healthy a).length := List.length_pos_iff.2 c2
        simp only [if_pos (show ((healthy a).length : Int) > 0 from by omega)]
        by_cases c3 : 0 ≤ h
        · have hm := watchOf_mem ⟨c1, c2, c3⟩
          have hne : mWatchOf a h ≠ 0 := fun e => (hz.1 e) ⟨c1, c2, c3⟩
          have e1 : (mWatchOf a h != 0) = true := bne_iff_ne.2 hne
          have e2 : decide (h ≥ 0) = true := decide_eq_true c3
          simp only [e1, e2, bne_self_eq_false, Bool.false_eq_true, if_false, if_neg hne]
          refine Ev.bind (ev_at (implHealthy_at a (by omega))) ?_
          have hlen := healthy_len a
          refine Ev.bind (ev_at (contains_at (healthy a) (mWatchOf a h) (by omega))) ?_
          simp only [decide_eq_true hm, Bool.not_true]
          exact fw_j0 l0 hb
        · have h0 : mWatchOf a h = 0 := hz.2 (fun q => c3 q.2.2)
          have e2 : decide (h ≥ 0) = false := decide_eq_false c3
          simp only [h0, e2, bne_self_eq_false, Bool.false_eq_true, if_false, if_true]
          exact fw_j0 l0 hb
    · have h0 : mWatchOf a h = 0 := hz.2 (fun q => c1 q.1)
      simp only [if_neg c1, h0, bne_self_eq_false, Bool.false_eq_true, if_false, if_true]
      exact fw_j0 l0 hb
end Go.Proofs.Ytfccmpchpcflkaa.Pure
