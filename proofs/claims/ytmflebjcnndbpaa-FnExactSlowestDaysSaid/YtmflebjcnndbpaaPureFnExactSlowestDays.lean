/- FnExactSlowestDays: the pure statement of the law, over the printed functions. No condition beyond the statement's own. -/
import Derived.Test.YtmflebjcnndbpaaSFnExactSlowestDaysx5
import Derived.Test.YtmflebjcnndbpaaLib
import Derived.Test.YtmflebjcnndbpaaOpens
namespace Go.Proofs.Ytmflebjcnndbpaa.Pure
open Go.RowKit Go.Proofs.Ytmflebjcnndbpaa.PFnExactSlowestDays Go.Proofs.YtmflebjcnndbpaaW.PrintWords Go.Proofs.YtmflebjcnndbpaaW.PrintLast Go.Proofs.Ytmflebjcnndbpaa.Lib Go.Proofs.Ytmflebjcnndbpaa.Opens
set_option linter.unusedVariables false
set_option linter.unusedSimpArgs false
namespace FnExactSlowestDaysPf
theorem toBoolS_ev (l : List Bool) (hl : l.length ≤ 1048576) : Ev (fun k => laws_toBoolS.f k l) l := by
  have h := map_loop (fun k out i => laws_toBoolS.l0 k l out i) l id false (by omega)
    (fun k out => by simp only [laws_toBoolS.l0]; rw [if_neg (by omega)])
    (fun k out i x hx ho hw => by
      have hi := lt_of_get hx
      have hr : rdOf false l (i : Int) = x := getD_of false hx
      simp only [laws_toBoolS.l0, hr, hw]
      rw [if_pos (by omega), if_pos (by omega), if_pos (by omega), Int.toNat_natCast]; rfl)
  rw [List.map_id] at h
  refine Ev.congr (fun k => ?_) h
  simp only [laws_toBoolS.f, Int.toNat_natCast]
  rw [if_pos (by omega), if_pos (by omega)]
theorem eqBoolS_ev (l : List Bool) (hl : l.length ≤ 4611686018427387904) : Ev (fun k => laws_eqBoolS.f k l l) true := by
  have h := count_loop (fun k i => laws_eqBoolS.l0 k l l i) l.length true hl
    (fun k => by simp only [laws_eqBoolS.l0]; rw [if_neg (by omega)])
    (fun k i hi hw => by simp only [laws_eqBoolS.l0, hw]; rw [if_pos (by omega), if_pos (by omega), if_pos (by omega)]; simp)
  refine Ev.congr (fun k => ?_) h
  simp only [laws_eqBoolS.f, if_true]
theorem l1In_eq (a b c : Int) : spec_l1In.f a b c = some (decide (b ≤ a ∧ a ≤ c)) := by
  unfold spec_l1In.f
  by_cases h : a ≥ b
  · rw [if_pos h]; simp [h]
  · rw [if_neg h]; simp [show ¬ (b ≤ a) from by omega]
theorem InRange_eq (a b c : Int) : impl_InRange.f a b c = some (decide (b ≤ a ∧ a ≤ c)) := by
  unfold impl_InRange.f
  by_cases h : b ≤ a
  · rw [if_pos h]; simp [h]
  · rw [if_neg h]; simp [h]
def ruleOk (m w : Int) : Prop := (1 ≤ w ∧ w ≤ 10) ∧ (0 ≤ m ∧ m ≤ w - 1)
instance (m w : Int) : Decidable (ruleOk m w) := by unfold ruleOk; infer_instance
theorem specRule_eq (m w : Int) : spec_IsRule.f m w = some (decide (ruleOk m w)) := by
  simp only [spec_IsRule.f, l1In_eq, Option.bind_some, decide_eq_true_eq]
  by_cases h : 1 ≤ w ∧ w ≤ 10
  · rw [if_pos h, wrap_id (by omega) (by omega)]
    congr 1
    exact decide_eq_decide.2 ⟨fun q => ⟨h, q⟩, fun q => q.2⟩
  · rw [if_neg h, decide_eq_false (fun q : ruleOk m w => h q.1)]
theorem implRule_eq (m w : Int) : impl_IsRule.f m w = some (decide (ruleOk m w)) := by
  simp only [impl_IsRule.f, InRange_eq, Option.bind_some, decide_eq_true_eq]
  by_cases h : 1 ≤ w ∧ w ≤ 10
  · rw [if_pos h, wrap_id (by omega) (by omega)]
    congr 1
    exact decide_eq_decide.2 ⟨fun q => ⟨h, q⟩, fun q => q.2⟩
  · rw [if_neg h, decide_eq_false (fun q : ruleOk m w => h q.1)]
def cnt (l : List Bool) : Int := ((l.filter id).length : Int)
def stepCS : Nat → Int → Bool → Int ⊕ Int := fun _ s x => .inr (if x = true then wrap64 (s + 1) else s)
theorem runCS : ∀ (l : List Bool) (i : Nat) (s : Int), 0 ≤ s → s + l.length ≤ 4611686018427387904 → run stepCS id i s l = s + cnt l
  | [], i, s, _, _ => by simp [run, cnt]
  | x :: t, i, s, h0, h1 => by
    rw [List.length_cons] at h1
    cases x with
    | true =>
      rw [run_inr (s' := s + 1) (by show Sum.inr (if true = true then wrap64 (s + 1) else s) = _; rw [if_pos rfl, wrap_id (by omega) (by omega)]), runCS t (i + 1) (s + 1) (by omega) (by omega)]
      simp only [cnt, List.filter_cons, id, if_true, List.length_cons]
      omega
    | false =>
      rw [run_inr (s' := s) rfl, runCS t (i + 1) s h0 (by omega)]
      rfl
theorem specCS_at (l : List Bool) (hl : l.length ≤ 2097152) : ∀ k, l.length < k → spec_CountStorms.f k l = some (cnt l) := by
  have h := at_loop0 (fun k s i => spec_CountStorms.l0 k l s i) l stepCS id (by omega) 0
    (fun k s => by simp only [spec_CountStorms.l0]; rw [if_neg (by omega)]; rfl)
    (fun k s i x hx hw => by
      have hi := lt_of_get hx
      have hr : rdOf false l (i : Int) = x := getD_of false hx
      simp only [spec_CountStorms.l0, hr, hw]; rw [if_pos (by omega), if_pos (by omega)]
      simp only [stepCS, Sum.elim_inr]; split <;> rfl)
  rw [runCS l 0 0 (by omega) (by omega), Int.zero_add] at h
  exact h
theorem implCS_at (l : List Bool) (hl : l.length ≤ 2097152) : ∀ k, l.length < k → impl_CountStorms.f k l = some (cnt l) := by
  have h := at_loop0 (fun k s i => impl_CountStorms.l0 k s l (l.length : Int) i) l stepCS id (by omega) 0
    (fun k s => by simp only [impl_CountStorms.l0]; rw [if_neg (by omega)]; rfl)
    (fun k s i x hx hw => by
      have hi := lt_of_get hx
      have hr : rdOf false l (i : Int) = x := getD_of false hx
      simp only [impl_CountStorms.l0, hr, hw]; rw [if_pos (by omega), if_pos (by omega), if_pos (by omega)]
      simp only [stepCS, Sum.elim_inr]; split <;> rfl)
  rw [runCS l 0 0 (by omega) (by omega), Int.zero_add] at h
  exact h
def lastN (n : Nat) (l : List Bool) : List Bool := l.drop (l.length - n)
theorem lastN_len (n : Nat) (l : List Bool) : (lastN n l).length ≤ n ∧ (lastN n l).length ≤ l.length := by
  unfold lastN
  rw [List.length_drop]
  omega
theorem lastN_snoc (n : Nat) (l : List Bool) (b : Bool) : lastN (n + 1) (l ++ [b]) = lastN n l ++ [b] := by
  unfold lastN
  rw [List.length_append, List.length_singleton, show l.length + 1 - (n + 1) = l.length - n from by omega, List.drop_append_of_le_length (by omega)]
theorem lastN_lastN (m n : Nat) (l : List Bool) (h : m ≤ n) : lastN m (lastN n l) = lastN m l := by
  unfold lastN
  rw [List.length_drop, List.drop_drop]
  congr 1
  omega
theorem implLast_eq (l : List Bool) (n : Nat) (hl : l.length ≤ 2097153) (hn : n ≤ 1000) : impl_last.f l (n : Int) = some (lastN n l) := by
  unfold impl_last.f
  rw [wrap_id (by omega) (by omega)]
  have e : mx ((l.length : Int) - (n : Int)) 0 = ((l.length - n : Nat) : Int) := by
    unfold mx
    split <;> omega
  rw [e, if_pos (by omega), if_pos (by omega), Int.toNat_natCast]
  rfl
def may (m w : Int) (l : List Bool) : Bool := decide (ruleOk m w ∧ cnt (lastN (w - 1).toNat l) < m)
theorem specMay_at (m w : Int) (l : List Bool) (hl : l.length ≤ 2097152) : ∀ k, l.length < k → spec_MayStorm.f k m w l = some (may m w l) := by
  intro k hk
  simp only [spec_MayStorm.f, specRule_eq, Option.bind_some, decide_eq_true_eq, may]
  by_cases h : ruleOk m w
  · have hw := h.1
    rw [if_pos h, wrap_id (n := (l.length : Int) + 1) (by omega) (by omega), wrap_id (by omega) (by omega)]
    have e : spec_Max.f 0 ((l.length : Int) + 1 - w) = some ((l.length - (w - 1).toNat : Nat) : Int) := by
      unfold spec_Max.f
      by_cases c : (l.length : Int) + 1 - w > 0
      · rw [if_pos c]
        congr 1
        omega
      · rw [if_neg c]
        congr 1
        omega
    rw [e]
    simp only [Option.bind_some, Int.toNat_natCast]
    rw [if_pos (by omega), if_pos (by omega), specCS_at _ (by rw [List.length_drop]; omega) k (by rw [List.length_drop]; omega)]
    simp only [Option.bind_some]
    congr 1
    exact decide_eq_decide.2 ⟨fun q => ⟨h, q⟩, fun q => q.2⟩
  · rw [if_neg h, decide_eq_false (fun q : ruleOk m w ∧ _ => h q.1)]
theorem implMay_at (m w : Int) (l : List Bool) (hl : l.length ≤ 2097152) : ∀ k, l.length < k → impl_MayStorm.f k m w l = some (may m w l) := by
  intro k hk
  simp only [impl_MayStorm.f, implRule_eq, Option.bind_some, decide_eq_true_eq, may]
  by_cases h : ruleOk m w
  · have hw := h.1
    have e : w - 1 = ((w - 1).toNat : Int) := by omega
    have hlen := lastN_len (w - 1).toNat l
    rw [if_pos h, wrap_id (by omega) (by omega), e, implLast_eq l _ (by omega) (by omega)]
    simp only [Option.bind_some, Int.toNat_natCast]
    rw [implCS_at _ (by omega) k (by omega)]
    simp only [Option.bind_some]
    congr 1
    exact decide_eq_decide.2 ⟨fun q => ⟨h, q⟩, fun q => q.2⟩
  · rw [if_neg h, decide_eq_false (fun q : ruleOk m w ∧ _ => h q.1)]
theorem implDay_eq (l : List Bool) (b : Bool) (hl : l.length ≤ 2097152) : impl_AddDay.f l b = some (lastN 10 (l ++ [b])) := by
  have h1 : ([] : List Bool).length + l.length < 140737488355328 := by simp; omega
  have h2 : l.length < 140737488355328 := by omega
  have h3 : ([] : List Bool).length + (lastN 10 (l ++ [b])).length < 140737488355328 := by
    have := (lastN_len 10 (l ++ [b])).1
    simp; omega
  have e := implLast_eq (l ++ [b]) 10 (by simp; omega) (by omega)
  simp only [impl_AddDay.f, Option.bind_some, h1, if_true, List.nil_append, h2, show impl_last.f (l ++ [b]) 10 = some (lastN 10 (l ++ [b])) from e, h3]
/-- Two pasts that are the same as far as a rule can see. -/
def Same (p q : List Bool) : Prop := lastN 10 p = lastN 10 q
theorem may_same {p q : List Bool} (m w : Int) (h : Same p q) : may m w p = may m w q := by
  unfold may
  by_cases r : ruleOk m w
  · have hw := r.1
    have e : lastN (w - 1).toNat p = lastN (w - 1).toNat q := by
      rw [← lastN_lastN (w - 1).toNat 10 p (by omega), ← lastN_lastN (w - 1).toNat 10 q (by omega), h]
    rw [e]
  · rw [decide_eq_false (fun q => r q.1), decide_eq_false (fun q => r q.1)]
theorem same_add {p q : List Bool} (b : Bool) (h : Same p q) : Same (p ++ [b]) (lastN 10 (q ++ [b])) := by
  unfold Same
  rw [lastN_lastN 10 10 _ (Nat.le_refl _), lastN_snoc 9, lastN_snoc 9, ← lastN_lastN 9 10 p (by omega), ← lastN_lastN 9 10 q (by omega), h]
theorem cnt_snoc (l : List Bool) : cnt (l ++ [true]) = cnt l + 1 := by
  unfold cnt
  simp
theorem cnt_nonneg (l : List Bool) : 0 ≤ cnt l := by
  unfold cnt
  omega
theorem cnt_tail (l : List Bool) : ∀ (j n : Nat), j ≤ n → (j : Int) ≤ cnt (lastN n (l ++ List.replicate j true))
  | 0, n, _ => cnt_nonneg _
  | j + 1, n, h => by
    obtain ⟨n, rfl⟩ : ∃ m, n = m + 1 := ⟨n - 1, by omega⟩
    rw [List.replicate_succ', ← List.append_assoc, lastN_snoc, cnt_snoc]
    have := cnt_tail l j n (by omega)
    omega
/-- After most storms in a row there is none more. -/
theorem may_end (m w : Int) (l : List Bool) (j : Nat) (hj : m ≤ j) : may m w (l ++ List.replicate j true) = false := by
  refine decide_eq_false (fun h => ?_)
  have hw := h.1
  obtain ⟨i, hi⟩ : ∃ i, j = i + m.toNat := ⟨j - m.toNat, by omega⟩
  have e : l ++ List.replicate j true = (l ++ List.replicate i true) ++ List.replicate m.toNat true := by rw [hi, ← List.replicate_append_replicate, List.append_assoc]
  have := cnt_tail (l ++ List.replicate i true) m.toNat (w - 1).toNat (by have := hw.1; have := hw.2; omega)
  rw [← e] at this
  have h2 := h.2
  have := hw.2
  omega
def sdIn (F : List Bool → Int) (m w : Int) : Nat → List Bool → Int
  | 0, l => 1 + F (l ++ [false])
  | d + 1, l => if may m w l = true then mx (1 + F (l ++ [false])) (1 + sdIn F m w d (l ++ [true])) else 1 + F (l ++ [false])
def sd (m w : Int) : Nat → List Bool → Int
  | 0, _ => 0
  | n + 1, l => sdIn (sd m w n) m w m.toNat l
theorem sdIn_range (F : List Bool → Int) (m w B : Int) (hF : ∀ l, 0 ≤ F l ∧ F l ≤ B) : ∀ (d : Nat) (l : List Bool), 0 ≤ sdIn F m w d l ∧ sdIn F m w d l ≤ B + d + 1
  | 0, l => by
    have := hF (l ++ [false])
    show 0 ≤ 1 + F (l ++ [false]) ∧ 1 + F (l ++ [false]) ≤ B + ((0 : Nat) : Int) + 1
    omega
  | d + 1, l => by
    have h1 := hF (l ++ [false])
    have h2 := sdIn_range F m w B hF d (l ++ [true])
    show 0 ≤ (if may m w l = true then mx (1 + F (l ++ [false])) (1 + sdIn F m w d (l ++ [true])) else 1 + F (l ++ [false])) ∧ (if may m w l = true then mx (1 + F (l ++ [false])) (1 + sdIn F m w d (l ++ [true])) else 1 + F (l ++ [false])) ≤ B + ((d + 1 : Nat) : Int) + 1
    unfold mx
    split
    · split <;> omega
    · omega
theorem sd_range (m w : Int) (hm : m ≤ 9) : ∀ (n : Nat) (l : List Bool), 0 ≤ sd m w n l ∧ sd m w n l ≤ 11 * n
  | 0, _ => ⟨Int.le_refl _, Int.le_refl _⟩
  | n + 1, l => by
    have := sdIn_range (sd m w n) m w (11 * n) (sd_range m w hm n) m.toNat l
    show 0 ≤ sdIn (sd m w n) m w m.toNat l ∧ sdIn (sd m w n) m w m.toNat l ≤ 11 * ((n + 1 : Nat) : Int)
    omega
theorem specMax_mx (a b : Int) : spec_Max.f a b = some (mx a b) := by
  unfold spec_Max.f mx
  by_cases h : b > a
  · rw [if_pos h, if_pos (by omega)]
  · rw [if_neg h, if_neg (by omega)]
theorem specSD_in (m w : Int) (r : ruleOk m w) (n : Nat) (hn : n ≤ 2) (past : List Bool)
    (hF : ∀ l, l.length + 20 * n ≤ 1048700 → Ev (fun k => spec_l26Slowest.f k m w l (n : Int)) (sd m w n l)) : ∀ (d j : Nat), m.toNat ≤ j + d → j + d ≤ 10 + m.toNat → past.length + j + d + 1 + 20 * n ≤ 1048700 →
    Ev (fun k => spec_l26Slowest.f k m w (past ++ List.replicate j true) ((n + 1 : Nat) : Int)) (sdIn (sd m w n) m w d (past ++ List.replicate j true))
  | d, j, h, h2, h3 => by
    have hw9 := r.1
    have hm9 := r.2
    have hlen : (past ++ List.replicate j true).length = past.length + j := by simp
    have e : (past ++ List.replicate j true) ++ [true] = past ++ List.replicate (j + 1) true := by rw [List.replicate_succ', List.append_assoc]
    generalize hl : past ++ List.replicate j true = l at hlen e
    have q3 : ([] : List Bool).length + l.length < 140737488355328 := by simp; omega
    have q4 : l.length + [false].length < 140737488355328 := by simp; omega
    have q5 : l.length + [true].length < 140737488355328 := by simp; omega
    have hw1 : wrap64 (((n + 1 : Nat) : Int) - 1) = (n : Int) := by rw [wrap_id (by omega) (by omega)]; omega
    refine Ev.step (f := fun k => (spec_l26Slowest.f k m w (l ++ [false]) (n : Int)).bind fun t133 => ((spec_MayStorm.f k m w l).bind fun t134 => (if t134 = true then ((spec_l26Slowest.f k m w (l ++ [true]) ((n + 1 : Nat) : Int)).bind fun t147 => ((spec_Max.f (wrap64 (1 + t133)) (wrap64 (1 + t147))).bind fun t148 => (some t148))) else (some (wrap64 (1 + t133)))))) (fun k => ?_) ?_
    · simp only [spec_l26Slowest.f, Option.bind_some, List.nil_append, q3, q4, q5, if_true, hw1]
      rw [if_neg (by omega)]
    refine Ev.bind (hF (l ++ [false]) (by simp; omega)) ?_
    refine Ev.bind (ev_at (specMay_at m w l (by omega))) ?_
    have b1 := sd_range m w (by omega) n (l ++ [false])
    have w1 : wrap64 (1 + sd m w n (l ++ [false])) = 1 + sd m w n (l ++ [false]) := wrap_id (by omega) (by omega)
    match d, h, h2, h3 with
    | 0, h, h2, h3 =>
      have hmay : may m w l = false := by rw [← hl]; exact may_end m w past j (by omega)
      simp only [hmay, Bool.false_eq_true, if_false, w1]
      exact Ev.now _
    | d + 1, h, h2, h3 =>
      by_cases c : may m w l = true
      · have ih := specSD_in m w r n hn past hF d (j + 1) (by omega) (by omega) (by omega)
        rw [← e] at ih
        have b2 := sdIn_range (sd m w n) m w (11 * n) (sd_range m w (by omega) n) d (l ++ [true])
        simp only [if_pos c]
        refine Ev.bind ih ?_
        rw [w1, wrap_id (n := 1 + sdIn (sd m w n) m w d (l ++ [true])) (by omega) (by omega), specMax_mx, show sdIn (sd m w n) m w (d + 1) l = mx (1 + sd m w n (l ++ [false])) (1 + sdIn (sd m w n) m w d (l ++ [true])) from by show (if may m w l = true then _ else _) = _; rw [if_pos c]]
        exact Ev.now _
      · simp only [if_neg c, w1]
        rw [show sdIn (sd m w n) m w (d + 1) l = 1 + sd m w n (l ++ [false]) from by show (if may m w l = true then _ else _) = _; rw [if_neg c]]
        exact Ev.now _
theorem specSD_down (m w : Int) (r : ruleOk m w) : ∀ (n : Nat) (l : List Bool), n ≤ 3 → l.length + 20 * n ≤ 1048700 → Ev (fun k => spec_l26Slowest.f k m w l (n : Int)) (sd m w n l)
  | 0, l, _, _ => by
    refine Ev.step (f := fun _ => some 0) (fun k => ?_) (Ev.now _)
    simp [spec_l26Slowest.f]
  | n + 1, l, hn, hl => by
    have hw9 := r.1
    have hm9 := r.2
    have := specSD_in m w r n (by omega) l (fun l' h' => specSD_down m w r n l' (by omega) h') m.toNat 0 (by omega) (by omega) (by omega)
    rw [List.replicate_zero, List.append_nil] at this
    exact this
theorem implSD_in (m w : Int) (r : ruleOk m w) (n : Nat) (hn : n ≤ 2) (past : List Bool)
    (hF : ∀ l q, Same l q → q.length ≤ 1048576 → Ev (fun k => impl_SlowestDays.f k m w q (n : Int)) (sd m w n l)) : ∀ (d j : Nat) (q : List Bool), m.toNat ≤ j + d → j + d ≤ 10 + m.toNat → Same (past ++ List.replicate j true) q → q.length ≤ 1048576 →
    Ev (fun k => impl_SlowestDays.f k m w q ((n + 1 : Nat) : Int)) (sdIn (sd m w n) m w d (past ++ List.replicate j true))
  | d, j, q, h, h2, hs, hq => by
    have hw9 := r.1
    have hm9 := r.2
    have e : (past ++ List.replicate j true) ++ [true] = past ++ List.replicate (j + 1) true := by rw [List.replicate_succ', List.append_assoc]
    generalize hl : past ++ List.replicate j true = l at hs e
    have hw1 : wrap64 (((n + 1 : Nat) : Int) - 1) = (n : Int) := by rw [wrap_id (by omega) (by omega)]; omega
    refine Ev.step (f := fun k => impl_SlowestDays.j0 k q ((n + 1 : Nat) : Int) false m w) (fun k => ?_) ?_
    · simp only [impl_SlowestDays.f, implRule_eq, Option.bind_some, InRange_eq, decide_eq_true r, if_true, decide_eq_true (show 0 ≤ ((n + 1 : Nat) : Int) ∧ ((n + 1 : Nat) : Int) ≤ 3 from by omega), Bool.not_true]
    refine Ev.step (f := fun k => (impl_SlowestDays.f k m w (lastN 10 (q ++ [false])) (n : Int)).bind fun t192 => ((impl_MayStorm.f k m w q).bind fun t193 => (if t193 = true then ((impl_SlowestDays.f k m w (lastN 10 (q ++ [true])) ((n + 1 : Nat) : Int)).bind fun t197 => (some (mx (wrap64 (1 + t192)) (wrap64 (1 + t197))))) else (some (wrap64 (1 + t192)))))) (fun k => ?_) ?_
    · simp only [impl_SlowestDays.j0, Bool.false_eq_true, if_false, Option.bind_some, implDay_eq q false (by omega), implDay_eq q true (by omega), hw1]
      rw [if_neg (by omega)]
    have l1 := (lastN_len 10 (q ++ [false])).1
    have l2 := (lastN_len 10 (q ++ [true])).1
    refine Ev.bind (hF (l ++ [false]) (lastN 10 (q ++ [false])) (same_add false hs) (by omega)) ?_
    refine Ev.bind (ev_at (implMay_at m w q (by omega))) ?_
    rw [← may_same m w hs]
    have b1 := sd_range m w (by omega) n (l ++ [false])
    have w1 : wrap64 (1 + sd m w n (l ++ [false])) = 1 + sd m w n (l ++ [false]) := wrap_id (by omega) (by omega)
    match d, h, h2 with
    | 0, h, h2 =>
      have hmay : may m w l = false := by rw [← hl]; exact may_end m w past j (by omega)
      simp only [hmay, Bool.false_eq_true, if_false, w1]
      exact Ev.now _
    | d + 1, h, h2 =>
      by_cases c : may m w l = true
      · have hs' := same_add true hs
        rw [e] at hs'
        have ih := implSD_in m w r n hn past hF d (j + 1) (lastN 10 (q ++ [true])) (by omega) (by omega) hs' (by omega)
        rw [← e] at ih
        have b2 := sdIn_range (sd m w n) m w (11 * n) (sd_range m w (by omega) n) d (l ++ [true])
        simp only [if_pos c]
        refine Ev.bind ih ?_
        rw [w1, wrap_id (n := 1 + sdIn (sd m w n) m w d (l ++ [true])) (by omega) (by omega), show sdIn (sd m w n) m w (d + 1) l = mx (1 + sd m w n (l ++ [false])) (1 + sdIn (sd m w n) m w d (l ++ [true])) from by show (if may m w l = true then _ else _) = _; rw [if_pos c]]
        exact Ev.now _
      · simp only [if_neg c, w1]
        rw [show sdIn (sd m w n) m w (d + 1) l = 1 + sd m w n (l ++ [false]) from by show (if may m w l = true then _ else _) = _; rw [if_neg c]]
        exact Ev.now _
theorem implSD_down (m w : Int) (r : ruleOk m w) : ∀ (n : Nat) (l q : List Bool), n ≤ 3 → Same l q → q.length ≤ 1048576 → Ev (fun k => impl_SlowestDays.f k m w q (n : Int)) (sd m w n l)
  | 0, l, q, _, _, _ => by
    refine Ev.step (f := fun k => impl_SlowestDays.j0 k q 0 false m w) (fun k => ?_) (Ev.step (f := fun _ => some 0) (fun k => ?_) (Ev.now _))
    · have h3 : (0 : Int) ≤ 0 ∧ (0 : Int) ≤ 3 := by decide
      simp only [impl_SlowestDays.f, implRule_eq, Option.bind_some, InRange_eq, decide_eq_true r, if_true, Int.natCast_zero, decide_eq_true h3, Bool.not_true]
    · simp [impl_SlowestDays.j0]
  | n + 1, l, q, hn, hs, hq => by
    have hw9 := r.1
    have hm9 := r.2
    have := implSD_in m w r n (by omega) l (fun l' q' h1 h2 => implSD_down m w r n l' q' (by omega) h1 h2) m.toNat 0 q (by omega) (by omega) (by rw [List.replicate_zero, List.append_nil]; exact hs) hq
    rw [List.replicate_zero, List.append_nil] at this
    exact this
def mSlowest (m w : Int) (l : List Bool) (n : Int) : Int := if ruleOk m w ∧ 0 ≤ n ∧ n ≤ 3 then sd m w n.toNat l else -1
theorem specSD_ev (m w : Int) (l : List Bool) (n : Int) (hl : l.length ≤ 1048576) : Ev (fun k => spec_SlowestDays.f k m w l n) (mSlowest m w l n) := by
  unfold mSlowest
  simp only [spec_SlowestDays.f, specRule_eq, Option.bind_some, l1In_eq, decide_eq_true_eq]
  by_cases r : ruleOk m w
  · simp only [if_pos r]
    by_cases h : 0 ≤ n ∧ n ≤ 3
    · simp only [if_pos h]
      rw [if_pos ⟨r, h⟩]
      have := specSD_down m w r n.toNat l (by omega) (by omega)
      rw [show ((n.toNat : Nat) : Int) = n from by omega] at this
      refine Ev.bind this ?_
      exact Ev.now _
    · simp only [if_neg h]
      rw [if_neg (fun q => h q.2)]
      exact Ev.now _
  · simp only [if_neg r]
    rw [if_neg (fun q => r q.1)]
    exact Ev.now _
theorem implSD_ev (m w : Int) (l : List Bool) (n : Int) (hl : l.length ≤ 1048576) : Ev (fun k => impl_SlowestDays.f k m w l n) (mSlowest m w l n) := by
  unfold mSlowest
  by_cases h : ruleOk m w ∧ 0 ≤ n ∧ n ≤ 3
  · rw [if_pos h]
    have := implSD_down m w h.1 n.toNat l l (by omega) rfl (by omega)
    rw [show ((n.toNat : Nat) : Int) = n from by omega] at this
    exact this
  · rw [if_neg h]
    have hb : Ev (fun k => impl_SlowestDays.j0 k l n true m w) (-1) := Ev.step (f := fun _ => some (-1)) (fun k => by simp [impl_SlowestDays.j0]) (Ev.now _)
    refine Ev.step (fun k => ?_) hb
    simp only [impl_SlowestDays.f, implRule_eq, Option.bind_some, InRange_eq]
    by_cases r : ruleOk m w
    · rw [if_pos (decide_eq_true r), decide_eq_false (fun q => h ⟨r, q⟩)]
      rfl
    · rw [if_neg (by rw [decide_eq_true_eq]; exact r)]
end FnExactSlowestDaysPf
open FnExactSlowestDaysPf
theorem FnExactSlowestDays : ∀ (a0_0 : Int) (a0_1 : Int) (l1 : List Bool) (a2 : Int), I64 a0_0 → I64 a0_1 → l1.length ≤ maxLen → (∀ y ∈ l1, True) → I64 a2 → ∃ k, laws_FnExactSlowestDays.f k a0_0 a0_1 l1 a2 = some true := by
  intro m w l n _ _ hl _ _
  apply Ev.rounds (g := fun k => laws_FnExactSlowestDays.f k m w l n)
  unfold laws_FnExactSlowestDays.f
  by_cases h : (l.length : Int) > 1048576
  · simp only [if_pos h]; exact Ev.now _
  · simp only [if_neg h, laws_toRule.f, Option.bind_some]
    refine Ev.bind (toBoolS_ev l (by omega)) ?_
    refine Ev.bind (specSD_ev m w l n (by omega)) ?_
    refine Ev.bind (toBoolS_ev l (by omega)) ?_
    refine Ev.bind (implSD_ev m w l n (by omega)) ?_
    simp only [if_true]
    refine Ev.bind (toBoolS_ev l (by omega)) ?_
    refine Ev.bind (eqBoolS_ev _ (by omega)) ?_
    exact Ev.now _
end Go.Proofs.Ytmflebjcnndbpaa.Pure
