/- FnExactCountWeathers: the pure statement of the law, over the printed functions. No condition beyond the statement's own. -/
import Derived.Test.YtmflebjcnndbpaaSFnExactCountWeathersx5
import Derived.Test.YtmflebjcnndbpaaLib
import Derived.Test.YtmflebjcnndbpaaOpens
namespace Go.Proofs.Ytmflebjcnndbpaa.Pure
open Go.RowKit Go.Proofs.Ytmflebjcnndbpaa.PFnExactCountWeathers Go.Proofs.YtmflebjcnndbpaaW.PrintWords Go.Proofs.YtmflebjcnndbpaaW.PrintLast Go.Proofs.Ytmflebjcnndbpaa.Lib Go.Proofs.Ytmflebjcnndbpaa.Opens
set_option linter.unusedVariables false
set_option linter.unusedSimpArgs false
namespace FnExactCountWeathersPf
theorem toBoolS_ev (l : List Bool) (hl : l.length ≤ 1048576) : Ev (fun k => laws_toBoolS.f k l) l := by
  have h := map_loop (fun k out i => laws_toBoolS.l0 k l out i) l id false (by omega)
    (fun k out => by simp only [laws_toBoolS.l0]; rw [if_neg (by omega)])
    (fun k out i x hx ho hw => by
      have hi := lt_of_get hx
      have hr : rdOf false l (i : Int) = x := getD_of false hx
      simp only [laws_toBoolS.l0, hr, hw]
      rw [if_pos (by omega), if_pos (by omega), if_pos (by omega), Int.toNat_natCast]; rfl)
  rw [List.map_id] at h
  refine Ev.congr (fun k => ?_) h
  simp only [laws_toBoolS.f, Int.toNat_natCast]
  rw [if_pos (by omega), if_pos (by omega)]
theorem eqBoolS_ev (l : List Bool) (hl : l.length ≤ 4611686018427387904) : Ev (fun k => laws_eqBoolS.f k l l) true := by
  have h := count_loop (fun k i => laws_eqBoolS.l0 k l l i) l.length true hl
    (fun k => by simp only [laws_eqBoolS.l0]; rw [if_neg (by omega)])
    (fun k i hi hw => by simp only [laws_eqBoolS.l0, hw]; rw [if_pos (by omega), if_pos (by omega), if_pos (by omega)]; simp)
  refine Ev.congr (fun k => ?_) h
  simp only [laws_eqBoolS.f, if_true]
theorem l1In_eq (a b c : Int) : spec_l1In.f a b c = some (decide (b ≤ a ∧ a ≤ c)) := by
  unfold spec_l1In.f
  by_cases h : a ≥ b
  · rw [if_pos h]; simp [h]
  · rw [if_neg h]; simp [show ¬ (b ≤ a) from by omega]
theorem InRange_eq (a b c : Int) : impl_InRange.f a b c = some (decide (b ≤ a ∧ a ≤ c)) := by
  unfold impl_InRange.f
  by_cases h : b ≤ a
  · rw [if_pos h]; simp [h]
  · rw [if_neg h]; simp [h]
def ruleOk (m w : Int) : Prop := (1 ≤ w ∧ w ≤ 10) ∧ (0 ≤ m ∧ m ≤ w - 1)
instance (m w : Int) : Decidable (ruleOk m w) := by unfold ruleOk; infer_instance
theorem specRule_eq (m w : Int) : spec_IsRule.f m w = some (decide (ruleOk m w)) := by
  simp only [spec_IsRule.f, l1In_eq, Option.bind_some, decide_eq_true_eq]
  by_cases h : 1 ≤ w ∧ w ≤ 10
  · rw [if_pos h, wrap_id (by omega) (by omega)]
    congr 1
    exact decide_eq_decide.2 ⟨fun q => ⟨h, q⟩, fun q => q.2⟩
  · rw [if_neg h, decide_eq_false (fun q : ruleOk m w => h q.1)]
theorem implRule_eq (m w : Int) : impl_IsRule.f m w = some (decide (ruleOk m w)) := by
  simp only [impl_IsRule.f, InRange_eq, Option.bind_some, decide_eq_true_eq]
  by_cases h : 1 ≤ w ∧ w ≤ 10
  · rw [if_pos h, wrap_id (by omega) (by omega)]
    congr 1
    exact decide_eq_decide.2 ⟨fun q => ⟨h, q⟩, fun q => q.2⟩
  · rw [if_neg h, decide_eq_false (fun q : ruleOk m w => h q.1)]
def cnt (l : List Bool) : Int := ((l.filter id).length : Int)
def stepCS : Nat → Int → Bool → Int ⊕ Int := fun _ s x => .inr (if x = true then wrap64 (s + 1) else s)
theorem runCS : ∀ (l : List Bool) (i : Nat) (s : Int), 0 ≤ s → s + l.length ≤ 4611686018427387904 → run stepCS id i s l = s + cnt l
  | [], i, s, _, _ => by simp [run, cnt]
  | x :: t, i, s, h0, h1 => by
    rw [List.length_cons] at h1
    cases x with
    | true =>
      rw [run_inr (s' := s + 1) (by show Sum.inr (if true = true then wrap64 (s + 1) else s) = _; rw [if_pos rfl, wrap_id (by omega) (by omega)]), runCS t (i + 1) (s + 1) (by omega) (by omega)]
      simp only [cnt, List.filter_cons, id, if_true, List.length_cons]
      omega
    | false =>
      rw [run_inr (s' := s) rfl, runCS t (i + 1) s h0 (by omega)]
      rfl
theorem specCS_at (l : List Bool) (hl : l.length ≤ 2097152) : ∀ k, l.length < k → spec_CountStorms.f k l = some (cnt l) := by
  have h := at_loop0 (fun k s i => spec_CountStorms.l0 k l s i) l stepCS id (by omega) 0
    (fun k s => by simp only [spec_CountStorms.l0]; rw [if_neg (by omega)]; rfl)
    (fun k s i x hx hw => by
      have hi := lt_of_get hx
      have hr : rdOf false l (i : Int) = x := getD_of false hx
      simp only [spec_CountStorms.l0, hr, hw]; rw [if_pos (by omega), if_pos (by omega)]
      simp only [stepCS, Sum.elim_inr]; split <;> rfl)
  rw [runCS l 0 0 (by omega) (by omega), Int.zero_add] at h
  exact h
theorem implCS_at (l : List Bool) (hl : l.length ≤ 2097152) : ∀ k, l.length < k → impl_CountStorms.f k l = some (cnt l) := by
  have h := at_loop0 (fun k s i => impl_CountStorms.l0 k s l (l.length : Int) i) l stepCS id (by omega) 0
    (fun k s => by simp only [impl_CountStorms.l0]; rw [if_neg (by omega)]; rfl)
    (fun k s i x hx hw => by
      have hi := lt_of_get hx
      have hr : rdOf false l (i : Int) = x := getD_of false hx
      simp only [impl_CountStorms.l0, hr, hw]; rw [if_pos (by omega), if_pos (by omega), if_pos (by omega)]
      simp only [stepCS, Sum.elim_inr]; split <;> rfl)
  rw [runCS l 0 0 (by omega) (by omega), Int.zero_add] at h
  exact h
def lastN (n : Nat) (l : List Bool) : List Bool := l.drop (l.length - n)
theorem lastN_len (n : Nat) (l : List Bool) : (lastN n l).length ≤ n ∧ (lastN n l).length ≤ l.length := by
  unfold lastN
  rw [List.length_drop]
  omega
theorem lastN_snoc (n : Nat) (l : List Bool) (b : Bool) : lastN (n + 1) (l ++ [b]) = lastN n l ++ [b] := by
  unfold lastN
  rw [List.length_append, List.length_singleton, show l.length + 1 - (n + 1) = l.length - n from by omega, List.drop_append_of_le_length (by omega)]
theorem lastN_lastN (m n : Nat) (l : List Bool) (h : m ≤ n) : lastN m (lastN n l) = lastN m l := by
  unfold lastN
  rw [List.length_drop, List.drop_drop]
  congr 1
  omega
theorem implLast_eq (l : List Bool) (n : Nat) (hl : l.length ≤ 2097153) (hn : n ≤ 1000) : impl_last.f l (n : Int) = some (lastN n l) := by
  unfold impl_last.f
  rw [wrap_id (by omega) (by omega)]
  have e : mx ((l.length : Int) - (n : Int)) 0 = ((l.length - n : Nat) : Int) := by
    unfold mx
    split <;> omega
  rw [e, if_pos (by omega), if_pos (by omega), Int.toNat_natCast]
  rfl
def may (m w : Int) (l : List Bool) : Bool := decide (ruleOk m w ∧ cnt (lastN (w - 1).toNat l) < m)
theorem specMay_at (m w : Int) (l : List Bool) (hl : l.length ≤ 2097152) : ∀ k, l.length < k → spec_MayStorm.f k m w l = some (may m w l) := by
  intro k hk
  simp only [spec_MayStorm.f, specRule_eq, Option.bind_some, decide_eq_true_eq, may]
  by_cases h : ruleOk m w
  · have hw := h.1
    rw [if_pos h, wrap_id (n := (l.length : Int) + 1) (by omega) (by omega), wrap_id (by omega) (by omega)]
    have e : spec_Max.f 0 ((l.length : Int) + 1 - w) = some ((l.length - (w - 1).toNat : Nat) : Int) := by
      unfold spec_Max.f
      by_cases c : (l.length : Int) + 1 - w > 0
      · rw [if_pos c]
        congr 1
        omega
      · rw [if_neg c]
        congr 1
        omega
    rw [e]
    simp only [Option.bind_some, Int.toNat_natCast]
    rw [if_pos (by omega), if_pos (by omega), specCS_at _ (by rw [List.length_drop]; omega) k (by rw [List.length_drop]; omega)]
    simp only [Option.bind_some]
    congr 1
    exact decide_eq_decide.2 ⟨fun q => ⟨h, q⟩, fun q => q.2⟩
  · rw [if_neg h, decide_eq_false (fun q : ruleOk m w ∧ _ => h q.1)]
theorem implMay_at (m w : Int) (l : List Bool) (hl : l.length ≤ 2097152) : ∀ k, l.length < k → impl_MayStorm.f k m w l = some (may m w l) := by
  intro k hk
  simp only [impl_MayStorm.f, implRule_eq, Option.bind_some, decide_eq_true_eq, may]
  by_cases h : ruleOk m w
  · have hw := h.1
    have e : w - 1 = ((w - 1).toNat : Int) := by omega
    have hlen := lastN_len (w - 1).toNat l
    rw [if_pos h, wrap_id (by omega) (by omega), e, implLast_eq l _ (by omega) (by omega)]
    simp only [Option.bind_some, Int.toNat_natCast]
    rw [implCS_at _ (by omega) k (by omega)]
    simp only [Option.bind_some]
    congr 1
    exact decide_eq_decide.2 ⟨fun q => ⟨h, q⟩, fun q => q.2⟩
  · rw [if_neg h, decide_eq_false (fun q : ruleOk m w ∧ _ => h q.1)]
theorem implDay_eq (l : List Bool) (b : Bool) (hl : l.length ≤ 2097152) : impl_AddDay.f l b = some (lastN 10 (l ++ [b])) := by
  have h1 : ([] : List Bool).length + l.length < 140737488355328 := by simp; omega
  have h2 : l.length < 140737488355328 := by omega
  have h3 : ([] : List Bool).length + (lastN 10 (l ++ [b])).length < 140737488355328 := by
    have := (lastN_len 10 (l ++ [b])).1
    simp; omega
  have e := implLast_eq (l ++ [b]) 10 (by simp; omega) (by omega)
  simp only [impl_AddDay.f, Option.bind_some, h1, if_true, List.nil_append, h2, show impl_last.f (l ++ [b]) 10 = some (lastN 10 (l ++ [b])) from e, h3]
/-- Two pasts that are the same as far as a rule can see. -/
def Same (p q : List Bool) : Prop := lastN 10 p = lastN 10 q
theorem may_same {p q : List Bool} (m w : Int) (h : Same p q) : may m w p = may m w q := by
  unfold may
  by_cases r : ruleOk m w
  · have hw := r.1
    have e : lastN (w - 1).toNat p = lastN (w - 1).toNat q := by
      rw [← lastN_lastN (w - 1).toNat 10 p (by omega), ← lastN_lastN (w - 1).toNat 10 q (by omega), h]
    rw [e]
  · rw [decide_eq_false (fun q => r q.1), decide_eq_false (fun q => r q.1)]
theorem same_add {p q : List Bool} (b : Bool) (h : Same p q) : Same (p ++ [b]) (lastN 10 (q ++ [b])) := by
  unfold Same
  rw [lastN_lastN 10 10 _ (Nat.le_refl _), lastN_snoc 9, lastN_snoc 9, ← lastN_lastN 9 10 p (by omega), ← lastN_lastN 9 10 q (by omega), h]
theorem cnt_snoc (l : List Bool) : cnt (l ++ [true]) = cnt l + 1 := by
  unfold cnt
  simp
theorem cnt_nonneg (l : List Bool) : 0 ≤ cnt l := by
  unfold cnt
  omega
theorem cnt_tail (l : List Bool) : ∀ (j n : Nat), j ≤ n → (j : Int) ≤ cnt (lastN n (l ++ List.replicate j true))
  | 0, n, _ => cnt_nonneg _
  | j + 1, n, h => by
    obtain ⟨n, rfl⟩ : ∃ m, n = m + 1 := ⟨n - 1, by omega⟩
    rw [List.replicate_succ', ← List.append_assoc, lastN_snoc, cnt_snoc]
    have := cnt_tail l j n (by omega)
    omega
/-- After most storms in a row there is none more. -/
theorem may_end (m w : Int) (l : List Bool) (j : Nat) (hj : m ≤ j) : may m w (l ++ List.replicate j true) = false := by
  refine decide_eq_false (fun h => ?_)
  have hw := h.1
  obtain ⟨i, hi⟩ : ∃ i, j = i + m.toNat := ⟨j - m.toNat, by omega⟩
  have e : l ++ List.replicate j true = (l ++ List.replicate i true) ++ List.replicate m.toNat true := by rw [hi, ← List.replicate_append_replicate, List.append_assoc]
  have := cnt_tail (l ++ List.replicate i true) m.toNat (w - 1).toNat (by have := hw.1; have := hw.2; omega)
  rw [← e] at this
  have h2 := h.2
  have := hw.2
  omega
def cw (m w : Int) : Nat → List Bool → Int
  | 0, _ => 1
  | n + 1, l => cw m w n (l ++ [false]) + (if may m w l = true then cw m w n (l ++ [true]) else 0)
theorem cw_range (m w : Int) : ∀ (n : Nat) (l : List Bool), 1 ≤ cw m w n l ∧ cw m w n l ≤ ((2 ^ n : Nat) : Int)
  | 0, _ => by simp [cw]
  | n + 1, l => by
    have h1 := cw_range m w n (l ++ [false])
    have h2 := cw_range m w n (l ++ [true])
    have e : ((2 ^ (n + 1) : Nat) : Int) = 2 * ((2 ^ n : Nat) : Int) := by rw [Nat.pow_succ]; omega
    rw [e]
    show 1 ≤ cw m w n (l ++ [false]) + (if may m w l = true then cw m w n (l ++ [true]) else 0) ∧ _
    generalize ((2 ^ n : Nat) : Int) = p at h1 h2
    show 1 ≤ cw m w n (l ++ [false]) + (if may m w l = true then cw m w n (l ++ [true]) else 0) ∧ cw m w n (l ++ [false]) + (if may m w l = true then cw m w n (l ++ [true]) else 0) ≤ 2 * p
    split <;> omega
theorem cw_small (m w : Int) (n : Nat) (l : List Bool) (h : n ≤ 10) : 1 ≤ cw m w n l ∧ cw m w n l ≤ 1024 := by
  have h1 := cw_range m w n l
  have : 2 ^ n ≤ 2 ^ 10 := Nat.pow_le_pow_right (by decide) h
  omega
theorem specCW_down (m w : Int) (r : ruleOk m w) : ∀ (n : Nat) (l : List Bool), n ≤ 10 → l.length + n ≤ 1048586 → Ev (fun k => spec_CountWeathers.f k m w l (n : Int)) (cw m w n l)
  | n, l, hn, hl => by
    refine Ev.step (f := fun k => spec_CountWeathers.j0 k l (n : Int) false m w) (fun k => ?_) ?_
    · simp only [spec_CountWeathers.f, specRule_eq, Option.bind_some, l1In_eq, decide_eq_true r, if_true, decide_eq_true (show 0 ≤ (n : Int) ∧ (n : Int) ≤ 10 from by omega), Bool.not_true]
    match n, hn, hl with
    | 0, hn, hl =>
      refine Ev.step (f := fun _ => some 1) (fun k => ?_) (Ev.now _)
      simp [spec_CountWeathers.j0]
    | n + 1, hn, hl =>
      have h3 : ([] : List Bool).length + l.length < 140737488355328 := by simp; omega
      have h4 : l.length + [false].length < 140737488355328 := by simp; omega
      have h5 : l.length + [true].length < 140737488355328 := by simp; omega
      have hw1 : wrap64 (((n + 1 : Nat) : Int) - 1) = (n : Int) := by rw [wrap_id (by omega) (by omega)]; omega
      refine Ev.step (f := fun k => (spec_CountWeathers.f k m w (l ++ [false]) (n : Int)).bind fun t135 => ((spec_MayStorm.f k m w l).bind fun t136 => (if t136 = true then ((spec_CountWeathers.f k m w (l ++ [true]) (n : Int)).bind fun t149 => (some (wrap64 (t135 + t149)))) else (some t135)))) (fun k => ?_) ?_
      · simp only [spec_CountWeathers.j0, Bool.false_eq_true, if_false, Option.bind_some, List.nil_append, h3, h4, h5, if_true, hw1]
        rw [if_neg (by omega)]
      have i1 := specCW_down m w r n (l ++ [false]) (by omega) (by simp; omega)
      have i2 := specCW_down m w r n (l ++ [true]) (by omega) (by simp; omega)
      refine Ev.bind i1 ?_
      refine Ev.bind (ev_at (specMay_at m w l (by omega))) ?_
      have b1 := cw_small m w n (l ++ [false]) (by omega)
      have b2 := cw_small m w n (l ++ [true]) (by omega)
      by_cases c : may m w l = true
      · simp only [if_pos c]
        refine Ev.bind i2 ?_
        rw [wrap_id (by omega) (by omega), show cw m w (n + 1) l = cw m w n (l ++ [false]) + cw m w n (l ++ [true]) from by show _ + (if may m w l = true then _ else _) = _; rw [if_pos c]]
        exact Ev.now _
      · simp only [if_neg c]
        rw [show cw m w (n + 1) l = cw m w n (l ++ [false]) from by show _ + (if may m w l = true then _ else _) = _; rw [if_neg c]; omega]
        exact Ev.now _
theorem implCW_down (m w : Int) (r : ruleOk m w) : ∀ (n : Nat) (l q : List Bool), n ≤ 10 → Same l q → q.length ≤ 1048576 → Ev (fun k => impl_CountWeathers.f k m w q (n : Int)) (cw m w n l)
  | n, l, q, hn, hs, hq => by
    refine Ev.step (f := fun k => impl_CountWeathers.j0 k q (n : Int) false m w) (fun k => ?_) ?_
    · simp only [impl_CountWeathers.f, implRule_eq, Option.bind_some, InRange_eq, decide_eq_true r, if_true, decide_eq_true (show 0 ≤ (n : Int) ∧ (n : Int) ≤ 10 from by omega), Bool.not_true]
    match n, hn with
    | 0, hn =>
      refine Ev.step (f := fun _ => some 1) (fun k => ?_) (Ev.now _)
      simp [impl_CountWeathers.j0]
    | n + 1, hn =>
      have hw1 : wrap64 (((n + 1 : Nat) : Int) - 1) = (n : Int) := by rw [wrap_id (by omega) (by omega)]; omega
      refine Ev.step (f := fun k => (impl_CountWeathers.f k m w (lastN 10 (q ++ [false])) (n : Int)).bind fun t135 => ((impl_MayStorm.f k m w q).bind fun t136 => (if t136 = true then ((impl_CountWeathers.f k m w (lastN 10 (q ++ [true])) (n : Int)).bind fun t149 => (some (wrap64 (t135 + t149)))) else (some t135)))) (fun k => ?_) ?_
      · simp only [impl_CountWeathers.j0, Bool.false_eq_true, if_false, Option.bind_some, implDay_eq q false (by omega), implDay_eq q true (by omega), hw1]
        rw [if_neg (by omega)]
      have l1 := (lastN_len 10 (q ++ [false])).1
      have l2 := (lastN_len 10 (q ++ [true])).1
      have i1 := implCW_down m w r n (l ++ [false]) (lastN 10 (q ++ [false])) (by omega) (same_add false hs) (by omega)
      have i2 := implCW_down m w r n (l ++ [true]) (lastN 10 (q ++ [true])) (by omega) (same_add true hs) (by omega)
      refine Ev.bind i1 ?_
      refine Ev.bind (ev_at (implMay_at m w q (by omega))) ?_
      rw [← may_same m w hs]
      have b1 := cw_small m w n (l ++ [false]) (by omega)
      have b2 := cw_small m w n (l ++ [true]) (by omega)
      by_cases c : may m w l = true
      · simp only [if_pos c]
        refine Ev.bind i2 ?_
        rw [wrap_id (by omega) (by omega), show cw m w (n + 1) l = cw m w n (l ++ [false]) + cw m w n (l ++ [true]) from by show _ + (if may m w l = true then _ else _) = _; rw [if_pos c]]
        exact Ev.now _
      · simp only [if_neg c]
        rw [show cw m w (n + 1) l = cw m w n (l ++ [false]) from by show _ + (if may m w l = true then _ else _) = _; rw [if_neg c]; omega]
        exact Ev.now _
def mWeathers (m w : Int) (l : List Bool) (n : Int) : Int := if ruleOk m w ∧ 0 ≤ n ∧ n ≤ 10 then cw m w n.toNat l else 0
theorem specCW_ev (m w : Int) (l : List Bool) (n : Int) (hl : l.length ≤ 1048576) : Ev (fun k => spec_CountWeathers.f k m w l n) (mWeathers m w l n) := by
  unfold mWeathers
  by_cases h : ruleOk m w ∧ 0 ≤ n ∧ n ≤ 10
  · rw [if_pos h]
    have := specCW_down m w h.1 n.toNat l (by omega) (by omega)
    rw [show ((n.toNat : Nat) : Int) = n from by omega] at this
    exact this
  · rw [if_neg h]
    have hb : Ev (fun k => spec_CountWeathers.j0 k l n true m w) 0 := Ev.step (f := fun _ => some 0) (fun k => by simp [spec_CountWeathers.j0]) (Ev.now _)
    refine Ev.step (fun k => ?_) hb
    simp only [spec_CountWeathers.f, specRule_eq, Option.bind_some, l1In_eq]
    by_cases r : ruleOk m w
    · rw [if_pos (decide_eq_true r), decide_eq_false (fun q => h ⟨r, q⟩)]
      rfl
    · rw [if_neg (by rw [decide_eq_true_eq]; exact r)]
theorem implCW_ev (m w : Int) (l : List Bool) (n : Int) (hl : l.length ≤ 1048576) : Ev (fun k => impl_CountWeathers.f k m w l n) (mWeathers m w l n) := by
  unfold mWeathers
  by_cases h : ruleOk m w ∧ 0 ≤ n ∧ n ≤ 10
  · rw [if_pos h]
    have := implCW_down m w h.1 n.toNat l l (by omega) rfl (by omega)
    rw [show ((n.toNat : Nat) : Int) = n from by omega] at this
    exact this
  · rw [if_neg h]
    have hb : Ev (fun k => impl_CountWeathers.j0 k l n true m w) 0 := Ev.step (f := fun _ => some 0) (fun k => by simp [impl_CountWeathers.j0]) (Ev.now _)
    refine Ev.step (fun k => ?_) hb
    simp only [impl_CountWeathers.f, implRule_eq, Option.bind_some, InRange_eq]
    by_cases r : ruleOk m w
    · rw [if_pos (decide_eq_true r), decide_eq_false (fun q => h ⟨r, q⟩)]
      rfl
    · rw [if_neg (by rw [decide_eq_true_eq]; exact r)]
end FnExactCountWeathersPf
open FnExactCountWeathersPf
theorem FnExactCountWeathers : ∀ (a0_0 : Int) (a0_1 : Int) (l1 : List Bool) (a2 : Int), I64 a0_0 → I64 a0_1 → l1.length ≤ maxLen → (∀ y ∈ l1, True) → I64 a2 → ∃ k, laws_FnExactCountWeathers.f k a0_0 a0_1 l1 a2 = some true := by
  intro m w l n _ _ hl _ _
  apply Ev.rounds (g := fun k => laws_FnExactCountWeathers.f k m w l n)
  unfold laws_FnExactCountWeathers.f
  by_cases h : (l.length : Int) > 1048576
  · simp only [if_pos h]; exact Ev.now _
  · simp only [if_neg h, laws_toRule.f, Option.bind_some]
    refine Ev.bind (toBoolS_ev l (by omega)) ?_
    refine Ev.bind (specCW_ev m w l n (by omega)) ?_
    refine Ev.bind (toBoolS_ev l (by omega)) ?_
    refine Ev.bind (implCW_ev m w l n (by omega)) ?_
    simp only [if_true]
    refine Ev.bind (toBoolS_ev l (by omega)) ?_
    refine Ev.bind (eqBoolS_ev _ (by omega)) ?_
    exact Ev.now _
end Go.Proofs.Ytmflebjcnndbpaa.Pure
