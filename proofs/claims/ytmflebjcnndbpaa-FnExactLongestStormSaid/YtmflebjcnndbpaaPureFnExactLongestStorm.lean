/- FnExactLongestStorm: the pure statement of the law, over the printed functions. No condition beyond the statement's own. -/
import Derived.Test.YtmflebjcnndbpaaSFnExactLongestStormx3
import Derived.Test.YtmflebjcnndbpaaLib
import Derived.Test.YtmflebjcnndbpaaOpens
namespace Go.Proofs.Ytmflebjcnndbpaa.Pure
open Go.RowKit Go.Proofs.Ytmflebjcnndbpaa.PFnExactLongestStorm Go.Proofs.YtmflebjcnndbpaaW.PrintWords Go.Proofs.YtmflebjcnndbpaaW.PrintLast Go.Proofs.Ytmflebjcnndbpaa.Lib Go.Proofs.Ytmflebjcnndbpaa.Opens
set_option linter.unusedVariables false
set_option linter.unusedSimpArgs false
namespace FnExactLongestStormPf
theorem toBoolS_ev (l : List Bool) (hl : l.length ≤ 1048576) : Ev (fun k => laws_toBoolS.f k l) l := by
  have h := map_loop (fun k out i => laws_toBoolS.l0 k l out i) l id false (by omega)
    (fun k out => by simp only [laws_toBoolS.l0]; rw [if_neg (by omega)])
    (fun k out i x hx ho hw => by
      have hi := lt_of_get hx
      have hr : rdOf false l (i : Int) = x := getD_of false hx
      simp only [laws_toBoolS.l0, hr, hw]
      rw [if_pos (by omega), if_pos (by omega), if_pos (by omega), Int.toNat_natCast]; rfl)
  rw [List.map_id] at h
  refine Ev.congr (fun k => ?_) h
  simp only [laws_toBoolS.f, Int.toNat_natCast]
  rw [if_pos (by omega), if_pos (by omega)]
theorem eqBoolS_ev (l : List Bool) (hl : l.length ≤ 4611686018427387904) : Ev (fun k => laws_eqBoolS.f k l l) true := by
  have h := count_loop (fun k i => laws_eqBoolS.l0 k l l i) l.length true hl
    (fun k => by simp only [laws_eqBoolS.l0]; rw [if_neg (by omega)])
    (fun k i hi hw => by simp only [laws_eqBoolS.l0, hw]; rw [if_pos (by omega), if_pos (by omega), if_pos (by omega)]; simp)
  refine Ev.congr (fun k => ?_) h
  simp only [laws_eqBoolS.f, if_true]
theorem l1In_eq (a b c : Int) : spec_l1In.f a b c = some (decide (b ≤ a ∧ a ≤ c)) := by
  unfold spec_l1In.f
  by_cases h : a ≥ b
  · rw [if_pos h]; simp [h]
  · rw [if_neg h]; simp [show ¬ (b ≤ a) from by omega]
theorem InRange_eq (a b c : Int) : impl_InRange.f a b c = some (decide (b ≤ a ∧ a ≤ c)) := by
  unfold impl_InRange.f
  by_cases h : b ≤ a
  · rw [if_pos h]; simp [h]
  · rw [if_neg h]; simp [h]
def ruleOk (m w : Int) : Prop := (1 ≤ w ∧ w ≤ 10) ∧ (0 ≤ m ∧ m ≤ w - 1)
instance (m w : Int) : Decidable (ruleOk m w) := by unfold ruleOk; infer_instance
theorem specRule_eq (m w : Int) : spec_IsRule.f m w = some (decide (ruleOk m w)) := by
  simp only [spec_IsRule.f, l1In_eq, Option.bind_some, decide_eq_true_eq]
  by_cases h : 1 ≤ w ∧ w ≤ 10
  · rw [if_pos h, wrap_id (by omega) (by omega)]
    congr 1
    exact decide_eq_decide.2 ⟨fun q => ⟨h, q⟩, fun q => q.2⟩
  · rw [if_neg h, decide_eq_false (fun q : ruleOk m w => h q.1)]
theorem implRule_eq (m w : Int) : impl_IsRule.f m w = some (decide (ruleOk m w)) := by
  simp only [impl_IsRule.f, InRange_eq, Option.bind_some, decide_eq_true_eq]
  by_cases h : 1 ≤ w ∧ w ≤ 10
  · rw [if_pos h, wrap_id (by omega) (by omega)]
    congr 1
    exact decide_eq_decide.2 ⟨fun q => ⟨h, q⟩, fun q => q.2⟩
  · rw [if_neg h, decide_eq_false (fun q : ruleOk m w => h q.1)]
def cnt (l : List Bool) : Int := ((l.filter id).length : Int)
def stepCS : Nat → Int → Bool → Int ⊕ Int := fun _ s x => .inr (if x = true then wrap64 (s + 1) else s)
theorem runCS : ∀ (l : List Bool) (i : Nat) (s : Int), 0 ≤ s → s + l.length ≤ 4611686018427387904 → run stepCS id i s l = s + cnt l
  | [], i, s, _, _ => by simp [run, cnt]
  | x :: t, i, s, h0, h1 => by
    rw [List.length_cons] at h1
    cases x with
    | true =>
      rw [run_inr (s' := s + 1) (by show Sum.inr (if true = true then wrap64 (s + 1) else s) = _; rw [if_pos rfl, wrap_id (by omega) (by omega)]), runCS t (i + 1) (s + 1) (by omega) (by omega)]
      simp only [cnt, List.filter_cons, id, if_true, List.length_cons]
      omega
    | false =>
      rw [run_inr (s' := s) rfl, runCS t (i + 1) s h0 (by omega)]
      rfl
theorem specCS_at (l : List Bool) (hl : l.length ≤ 2097152) : ∀ k, l.length < k → spec_CountStorms.f k l = some (cnt l) := by
  have h := at_loop0 (fun k s i => spec_CountStorms.l0 k l s i) l stepCS id (by omega) 0
    (fun k s => by simp only [spec_CountStorms.l0]; rw [if_neg (by omega)]; rfl)
    (fun k s i x hx hw => by
      have hi := lt_of_get hx
      have hr : rdOf false l (i : Int) = x := getD_of false hx
      simp only [spec_CountStorms.l0, hr, hw]; rw [if_pos (by omega), if_pos (by omega)]
      simp only [stepCS, Sum.elim_inr]; split <;> rfl)
  rw [runCS l 0 0 (by omega) (by omega), Int.zero_add] at h
  exact h
theorem implCS_at (l : List Bool) (hl : l.length ≤ 2097152) : ∀ k, l.length < k → impl_CountStorms.f k l = some (cnt l) := by
  have h := at_loop0 (fun k s i => impl_CountStorms.l0 k s l (l.length : Int) i) l stepCS id (by omega) 0
    (fun k s => by simp only [impl_CountStorms.l0]; rw [if_neg (by omega)]; rfl)
    (fun k s i x hx hw => by
      have hi := lt_of_get hx
      have hr : rdOf false l (i : Int) = x := getD_of false hx
      simp only [impl_CountStorms.l0, hr, hw]; rw [if_pos (by omega), if_pos (by omega), if_pos (by omega)]
      simp only [stepCS, Sum.elim_inr]; split <;> rfl)
  rw [runCS l 0 0 (by omega) (by omega), Int.zero_add] at h
  exact h
def lastN (n : Nat) (l : List Bool) : List Bool := l.drop (l.length - n)
theorem lastN_len (n : Nat) (l : List Bool) : (lastN n l).length ≤ n ∧ (lastN n l).length ≤ l.length := by
  unfold lastN
  rw [List.length_drop]
  omega
theorem lastN_snoc (n : Nat) (l : List Bool) (b : Bool) : lastN (n + 1) (l ++ [b]) = lastN n l ++ [b] := by
  unfold lastN
  rw [List.length_append, List.length_singleton, show l.length + 1 - (n + 1) = l.length - n from by omega, List.drop_append_of_le_length (by omega)]
theorem lastN_lastN (m n : Nat) (l : List Bool) (h : m ≤ n) : lastN m (lastN n l) = lastN m l := by
  unfold lastN
  rw [List.length_drop, List.drop_drop]
  congr 1
  omega
theorem implLast_eq (l : List Bool) (n : Nat) (hl : l.length ≤ 2097153) (hn : n ≤ 1000) : impl_last.f l (n : Int) = some (lastN n l) := by
  unfold impl_last.f
  rw [wrap_id (by omega) (by omega)]
  have e : mx ((l.length : Int) - (n : Int)) 0 = ((l.length - n : Nat) : Int) := by
    unfold mx
    split <;> omega
  rw [e, if_pos (by omega), if_pos (by omega), Int.toNat_natCast]
  rfl
def may (m w : Int) (l : List Bool) : Bool := decide (ruleOk m w ∧ cnt (lastN (w - 1).toNat l) < m)
theorem specMay_at (m w : Int) (l : List Bool) (hl : l.length ≤ 2097152) : ∀ k, l.length < k → spec_MayStorm.f k m w l = some (may m w l) := by
  intro k hk
  simp only [spec_MayStorm.f, specRule_eq, Option.bind_some, decide_eq_true_eq, may]
  by_cases h : ruleOk m w
  · have hw := h.1
    rw [if_pos h, wrap_id (n := (l.length : Int) + 1) (by omega) (by omega), wrap_id (by omega) (by omega)]
    have e : spec_Max.f 0 ((l.length : Int) + 1 - w) = some ((l.length - (w - 1).toNat : Nat) : Int) := by
      unfold spec_Max.f
      by_cases c : (l.length : Int) + 1 - w > 0
      · rw [if_pos c]
        congr 1
        omega
      · rw [if_neg c]
        congr 1
        omega
    rw [e]
    simp only [Option.bind_some, Int.toNat_natCast]
    rw [if_pos (by omega), if_pos (by omega), specCS_at _ (by rw [List.length_drop]; omega) k (by rw [List.length_drop]; omega)]
    simp only [Option.bind_some]
    congr 1
    exact decide_eq_decide.2 ⟨fun q => ⟨h, q⟩, fun q => q.2⟩
  · rw [if_neg h, decide_eq_false (fun q : ruleOk m w ∧ _ => h q.1)]
theorem implMay_at (m w : Int) (l : List Bool) (hl : l.length ≤ 2097152) : ∀ k, l.length < k → impl_MayStorm.f k m w l = some (may m w l) := by
  intro k hk
  simp only [impl_MayStorm.f, implRule_eq, Option.bind_some, decide_eq_true_eq, may]
  by_cases h : ruleOk m w
  · have hw := h.1
    have e : w - 1 = ((w - 1).toNat : Int) := by omega
    have hlen := lastN_len (w - 1).toNat l
    rw [if_pos h, wrap_id (by omega) (by omega), e, implLast_eq l _ (by omega) (by omega)]
    simp only [Option.bind_some, Int.toNat_natCast]
    rw [implCS_at _ (by omega) k (by omega)]
    simp only [Option.bind_some]
    congr 1
    exact decide_eq_decide.2 ⟨fun q => ⟨h, q⟩, fun q => q.2⟩
  · rw [if_neg h, decide_eq_false (fun q : ruleOk m w ∧ _ => h q.1)]
theorem implDay_eq (l : List Bool) (b : Bool) (hl : l.length ≤ 2097152) : impl_AddDay.f l b = some (lastN 10 (l ++ [b])) := by
  have h1 : ([] : List Bool).length + l.length < 140737488355328 := by simp; omega
  have h2 : l.length < 140737488355328 := by omega
  have h3 : ([] : List Bool).length + (lastN 10 (l ++ [b])).length < 140737488355328 := by
    have := (lastN_len 10 (l ++ [b])).1
    simp; omega
  have e := implLast_eq (l ++ [b]) 10 (by simp; omega) (by omega)
  simp only [impl_AddDay.f, Option.bind_some, h1, if_true, List.nil_append, h2, show impl_last.f (l ++ [b]) 10 = some (lastN 10 (l ++ [b])) from e, h3]
/-- Two pasts that are the same as far as a rule can see. -/
def Same (p q : List Bool) : Prop := lastN 10 p = lastN 10 q
theorem may_same {p q : List Bool} (m w : Int) (h : Same p q) : may m w p = may m w q := by
  unfold may
  by_cases r : ruleOk m w
  · have hw := r.1
    have e : lastN (w - 1).toNat p = lastN (w - 1).toNat q := by
      rw [← lastN_lastN (w - 1).toNat 10 p (by omega), ← lastN_lastN (w - 1).toNat 10 q (by omega), h]
    rw [e]
  · rw [decide_eq_false (fun q => r q.1), decide_eq_false (fun q => r q.1)]
theorem same_add {p q : List Bool} (b : Bool) (h : Same p q) : Same (p ++ [b]) (lastN 10 (q ++ [b])) := by
  unfold Same
  rw [lastN_lastN 10 10 _ (Nat.le_refl _), lastN_snoc 9, lastN_snoc 9, ← lastN_lastN 9 10 p (by omega), ← lastN_lastN 9 10 q (by omega), h]
theorem cnt_snoc (l : List Bool) : cnt (l ++ [true]) = cnt l + 1 := by
  unfold cnt
  simp
theorem cnt_nonneg (l : List Bool) : 0 ≤ cnt l := by
  unfold cnt
  omega
theorem cnt_tail (l : List Bool) : ∀ (j n : Nat), j ≤ n → (j : Int) ≤ cnt (lastN n (l ++ List.replicate j true))
  | 0, n, _ => cnt_nonneg _
  | j + 1, n, h => by
    obtain ⟨n, rfl⟩ : ∃ m, n = m + 1 := ⟨n - 1, by omega⟩
    rw [List.replicate_succ', ← List.append_assoc, lastN_snoc, cnt_snoc]
    have := cnt_tail l j n (by omega)
    omega
/-- After most storms in a row there is none more. -/
theorem may_end (m w : Int) (l : List Bool) (j : Nat) (hj : m ≤ j) : may m w (l ++ List.replicate j true) = false := by
  refine decide_eq_false (fun h => ?_)
  have hw := h.1
  obtain ⟨i, hi⟩ : ∃ i, j = i + m.toNat := ⟨j - m.toNat, by omega⟩
  have e : l ++ List.replicate j true = (l ++ List.replicate i true) ++ List.replicate m.toNat true := by rw [hi, ← List.replicate_append_replicate, List.append_assoc]
  have := cnt_tail (l ++ List.replicate i true) m.toNat (w - 1).toNat (by have := hw.1; have := hw.2; omega)
  rw [← e] at this
  have h2 := h.2
  have := hw.2
  omega
def longest (m w : Int) : Nat → List Bool → Nat
  | 0, _ => 0
  | d + 1, l => if may m w l = true then longest m w d (l ++ [true]) + 1 else 0
theorem longest_le (m w : Int) : ∀ (d : Nat) (l : List Bool), longest m w d l ≤ d
  | 0, _ => Nat.le_refl _
  | d + 1, l => by
    have := longest_le m w d (l ++ [true])
    show (if may m w l = true then longest m w d (l ++ [true]) + 1 else 0) ≤ d + 1
    split <;> omega
theorem specLS_down (m w : Int) (past : List Bool) (hp : past.length ≤ 1048576) : ∀ (d j : Nat), m.toNat ≤ j + d → j + d ≤ 20 + m.toNat → m.toNat ≤ 20 →
    Ev (fun k => spec_LongestStorm.l0 k past (past ++ List.replicate j true) m w) ((j : Int) + longest m w d (past ++ List.replicate j true))
  | 0, j, h, h2, h3 => by
    have hm := may_end m w past j (by omega)
    have hlen : (past ++ List.replicate j true).length = past.length + j := by simp
    refine Ev.step (f := fun k => (spec_MayStorm.f k m w (past ++ List.replicate j true)).bind fun t117 => (if t117 = true then (if (past ++ List.replicate j true).length < 140737488355328 then (spec_LongestStorm.l0 k past ((past ++ List.replicate j true) ++ [true]) m w) else (none)) else (some (wrap64 (((past ++ List.replicate j true).length : Int) - (past.length : Int)))))) (fun k => by simp only [spec_LongestStorm.l0]) ?_
    refine Ev.bind (ev_at (specMay_at m w _ (by omega))) ?_
    simp only [hm, Bool.false_eq_true, if_false]
    rw [wrap_id (by omega) (by omega), show (((past ++ List.replicate j true).length : Int) - (past.length : Int)) = (j : Int) + ((longest m w 0 (past ++ List.replicate j true) : Nat) : Int) from by show _ = (j : Int) + ((0 : Nat) : Int); omega]
    exact Ev.now _
  | d + 1, j, h, h2, h3 => by
    have hlen : (past ++ List.replicate j true).length = past.length + j := by simp
    refine Ev.step (f := fun k => (spec_MayStorm.f k m w (past ++ List.replicate j true)).bind fun t117 => (if t117 = true then (if (past ++ List.replicate j true).length < 140737488355328 then (spec_LongestStorm.l0 k past ((past ++ List.replicate j true) ++ [true]) m w) else (none)) else (some (wrap64 (((past ++ List.replicate j true).length : Int) - (past.length : Int)))))) (fun k => by simp only [spec_LongestStorm.l0]) ?_
    refine Ev.bind (ev_at (specMay_at m w _ (by omega))) ?_
    have e : (past ++ List.replicate j true) ++ [true] = past ++ List.replicate (j + 1) true := by rw [List.replicate_succ', List.append_assoc]
    by_cases c : may m w (past ++ List.replicate j true) = true
    · have ih := specLS_down m w past hp d (j + 1) (by omega) (by omega) h3
      have el : longest m w (d + 1) (past ++ List.replicate j true) = longest m w d (past ++ List.replicate (j + 1) true) + 1 := by
        show (if may m w (past ++ List.replicate j true) = true then _ else _) = _
        rw [if_pos c, e]
      simp only [if_pos c, if_pos (show (past ++ List.replicate j true).length < 140737488355328 from by omega), e]
      rw [el, show (j : Int) + ((longest m w d (past ++ List.replicate (j + 1) true) + 1 : Nat) : Int) = ((j + 1 : Nat) : Int) + longest m w d (past ++ List.replicate (j + 1) true) from by omega]
      exact ih
    · have el : longest m w (d + 1) (past ++ List.replicate j true) = 0 := by
        show (if may m w (past ++ List.replicate j true) = true then _ else _) = _
        rw [if_neg c]
      simp only [if_neg c]
      rw [el, wrap_id (by omega) (by omega), show (((past ++ List.replicate j true).length : Int) - (past.length : Int)) = (j : Int) + ((0 : Nat) : Int) from by omega]
      exact Ev.now _
theorem implLS_down (m w : Int) (past : List Bool) (hm20 : m.toNat ≤ 20) : ∀ (d j : Nat) (q : List Bool), m.toNat ≤ j + d → j + d ≤ 20 + m.toNat → Same (past ++ List.replicate j true) q → q.length ≤ 1048576 →
    Ev (fun k => impl_LongestStorm.l0 k q (j : Int) m w) ((j : Int) + longest m w d (past ++ List.replicate j true))
  | d, j, q, h, h2, hs, hq => by
    refine Ev.step (f := fun k => (impl_MayStorm.f k m w q).bind fun t163 => (if t163 = true then ((impl_AddDay.f q true).bind fun t164 => (impl_LongestStorm.l0 k t164 (wrap64 ((j : Int) + 1)) m w)) else (some (j : Int)))) (fun k => by simp only [impl_LongestStorm.l0]) ?_
    refine Ev.bind (ev_at (implMay_at m w q (by omega))) ?_
    rw [← may_same m w hs]
    match d, h, h2 with
    | 0, h, h2 =>
      simp only [may_end m w past j (by omega), Bool.false_eq_true, if_false]
      rw [show (j : Int) + ((longest m w 0 (past ++ List.replicate j true) : Nat) : Int) = (j : Int) from by show (j : Int) + ((0 : Nat) : Int) = _; omega]
      exact Ev.now _
    | d + 1, h, h2 =>
      have e : (past ++ List.replicate j true) ++ [true] = past ++ List.replicate (j + 1) true := by rw [List.replicate_succ', List.append_assoc]
      by_cases c : may m w (past ++ List.replicate j true) = true
      · have el : longest m w (d + 1) (past ++ List.replicate j true) = longest m w d (past ++ List.replicate (j + 1) true) + 1 := by
          show (if may m w (past ++ List.replicate j true) = true then _ else _) = _
          rw [if_pos c, e]
        have hs' := same_add true hs
        rw [e] at hs'
        have hl := (lastN_len 10 (q ++ [true])).1
        have ih := implLS_down m w past hm20 d (j + 1) (lastN 10 (q ++ [true])) (by omega) (by omega) hs' (by omega)
        simp only [if_pos c, implDay_eq q true (by omega), Option.bind_some, wrapi j (by omega)]
        rw [el, show (j : Int) + ((longest m w d (past ++ List.replicate (j + 1) true) + 1 : Nat) : Int) = ((j + 1 : Nat) : Int) + longest m w d (past ++ List.replicate (j + 1) true) from by omega]
        rw [Int.natCast_add, Int.natCast_one] at ih ⊢
        exact ih
      · have el : longest m w (d + 1) (past ++ List.replicate j true) = 0 := by
          show (if may m w (past ++ List.replicate j true) = true then _ else _) = _
          rw [if_neg c]
        simp only [if_neg c]
        rw [el, show (j : Int) + ((0 : Nat) : Int) = (j : Int) from by omega]
        exact Ev.now _
def mLongest (m w : Int) (l : List Bool) : Int := if ruleOk m w then (longest m w m.toNat l : Int) else 0
theorem specLS_ev (m w : Int) (l : List Bool) (hl : l.length ≤ 1048576) : Ev (fun k => spec_LongestStorm.f k m w l) (mLongest m w l) := by
  have h1 : ([] : List Bool).length + l.length < 140737488355328 := by simp; omega
  simp only [spec_LongestStorm.f, Option.bind_some, h1, if_true, List.nil_append]
  unfold mLongest
  by_cases r : ruleOk m w
  · have hw := r.1
    have hm := r.2
    rw [if_pos r]
    have := specLS_down m w l hl m.toNat 0 (by omega) (by omega) (by omega)
    rw [List.replicate_zero, List.append_nil, show ((0 : Nat) : Int) + ((longest m w m.toNat l : Nat) : Int) = ((longest m w m.toNat l : Nat) : Int) from by omega] at this
    exact this
  · rw [if_neg r]
    have hm : may m w l = false := decide_eq_false (fun q => r q.1)
    refine Ev.step (f := fun k => (spec_MayStorm.f k m w l).bind fun t117 => (if t117 = true then (if l.length < 140737488355328 then (spec_LongestStorm.l0 k l (l ++ [true]) m w) else (none)) else (some (wrap64 ((l.length : Int) - (l.length : Int)))))) (fun k => by simp only [spec_LongestStorm.l0]) ?_
    refine Ev.bind (ev_at (specMay_at m w l (by omega))) ?_
    simp only [hm, Bool.false_eq_true, if_false]
    rw [wrap_id (by omega) (by omega), Int.sub_self]
    exact Ev.now _
theorem implLS_ev (m w : Int) (l : List Bool) (hl : l.length ≤ 1048576) : Ev (fun k => impl_LongestStorm.f k m w l) (mLongest m w l) := by
  simp only [impl_LongestStorm.f]
  unfold mLongest
  by_cases r : ruleOk m w
  · have hw := r.1
    have hm := r.2
    rw [if_pos r]
    have := implLS_down m w l (by omega) m.toNat 0 l (by omega) (by omega) (by rw [List.replicate_zero, List.append_nil]; rfl) hl
    rw [List.replicate_zero, List.append_nil, show ((0 : Nat) : Int) + ((longest m w m.toNat l : Nat) : Int) = ((longest m w m.toNat l : Nat) : Int) from by omega] at this
    exact this
  · rw [if_neg r]
    have hm : may m w l = false := decide_eq_false (fun q => r q.1)
    refine Ev.step (f := fun k => (impl_MayStorm.f k m w l).bind fun t163 => (if t163 = true then ((impl_AddDay.f l true).bind fun t164 => (impl_LongestStorm.l0 k t164 (wrap64 (0 + 1)) m w)) else (some 0))) (fun k => by simp only [impl_LongestStorm.l0]) ?_
    refine Ev.bind (ev_at (implMay_at m w l (by omega))) ?_
    simp only [hm, Bool.false_eq_true, if_false]
    exact Ev.now _
end FnExactLongestStormPf
open FnExactLongestStormPf
theorem FnExactLongestStorm : ∀ (a0_0 : Int) (a0_1 : Int) (l1 : List Bool), I64 a0_0 → I64 a0_1 → l1.length ≤ maxLen → (∀ y ∈ l1, True) → ∃ k, laws_FnExactLongestStorm.f k a0_0 a0_1 l1 = some true := by
  intro m w l _ _ hl _
  apply Ev.rounds (g := fun k => laws_FnExactLongestStorm.f k m w l)
  unfold laws_FnExactLongestStorm.f
  by_cases h : (l.length : Int) > 1048576
  · simp only [if_pos h]; exact Ev.now _
  · simp only [if_neg h, laws_toRule.f, Option.bind_some]
    refine Ev.bind (toBoolS_ev l (by omega)) ?_
    refine Ev.bind (specLS_ev m w l (by omega)) ?_
    refine Ev.bind (toBoolS_ev l (by omega)) ?_
    refine Ev.bind (implLS_ev m w l (by omega)) ?_
    simp only [if_true]
    refine Ev.bind (toBoolS_ev l (by omega)) ?_
    refine Ev.bind (eqBoolS_ev _ (by omega)) ?_
    exact Ev.now _
end Go.Proofs.Ytmflebjcnndbpaa.Pure
