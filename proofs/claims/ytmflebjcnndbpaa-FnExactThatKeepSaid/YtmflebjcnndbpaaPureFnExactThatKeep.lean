/- FnExactThatKeep: the pure statement of the law, over the printed functions. No condition beyond the statement's own. -/
import Derived.Test.YtmflebjcnndbpaaSFnExactThatKeepx5
import Derived.Test.YtmflebjcnndbpaaLib
import Derived.Test.YtmflebjcnndbpaaOpens
namespace Go.Proofs.Ytmflebjcnndbpaa.Pure
open Go.RowKit Go.Proofs.Ytmflebjcnndbpaa.PFnExactThatKeep Go.Proofs.YtmflebjcnndbpaaW.PrintWords Go.Proofs.YtmflebjcnndbpaaW.PrintLast Go.Proofs.Ytmflebjcnndbpaa.Lib Go.Proofs.Ytmflebjcnndbpaa.Opens
set_option linter.unusedVariables false
set_option linter.unusedSimpArgs false
namespace FnExactThatKeepPf
theorem szBoolS_eq (l : List Bool) (a : Int) (hl : l.length ≤ maxLen) (h0 : 0 ≤ a) (h1 : a ≤ 1048576) : laws_szBoolS.f l a = some (if a - (l.length : Int) < 0 then -1 else a - (l.length : Int)) := by
  have h : wrap64 (a - (l.length : Int)) = a - (l.length : Int) := wrap_id (by unfold maxLen at hl; omega) (by omega)
  simp only [laws_szBoolS.f, h]
  split <;> rfl
theorem toBoolS_ev (l : List Bool) (hl : l.length ≤ 1048576) : Ev (fun k => laws_toBoolS.f k l) l := by
  have h := map_loop (fun k out i => laws_toBoolS.l0 k l out i) l id false (by omega)
    (fun k out => by simp only [laws_toBoolS.l0]; rw [if_neg (by omega)])
    (fun k out i x hx ho hw => by
      have hi := lt_of_get hx
      have hr : rdOf false l (i : Int) = x := getD_of false hx
      simp only [laws_toBoolS.l0, hr, hw]
      rw [if_pos (by omega), if_pos (by omega), if_pos (by omega), Int.toNat_natCast]; rfl)
  rw [List.map_id] at h
  refine Ev.congr (fun k => ?_) h
  simp only [laws_toBoolS.f, Int.toNat_natCast]
  rw [if_pos (by omega), if_pos (by omega)]
theorem eqBoolS_ev (l : List Bool) (hl : l.length ≤ 4611686018427387904) : Ev (fun k => laws_eqBoolS.f k l l) true := by
  have h := count_loop (fun k i => laws_eqBoolS.l0 k l l i) l.length true hl
    (fun k => by simp only [laws_eqBoolS.l0]; rw [if_neg (by omega)])
    (fun k i hi hw => by simp only [laws_eqBoolS.l0, hw]; rw [if_pos (by omega), if_pos (by omega), if_pos (by omega)]; simp)
  refine Ev.congr (fun k => ?_) h
  simp only [laws_eqBoolS.f, if_true]
theorem l1In_eq (a b c : Int) : spec_l1In.f a b c = some (decide (b ≤ a ∧ a ≤ c)) := by
  unfold spec_l1In.f
  by_cases h : a ≥ b
  · rw [if_pos h]; simp [h]
  · rw [if_neg h]; simp [show ¬ (b ≤ a) from by omega]
theorem InRange_eq (a b c : Int) : impl_InRange.f a b c = some (decide (b ≤ a ∧ a ≤ c)) := by
  unfold impl_InRange.f
  by_cases h : b ≤ a
  · rw [if_pos h]; simp [h]
  · rw [if_neg h]; simp [h]
def ruleOk (m w : Int) : Prop := (1 ≤ w ∧ w ≤ 10) ∧ (0 ≤ m ∧ m ≤ w - 1)
instance (m w : Int) : Decidable (ruleOk m w) := by unfold ruleOk; infer_instance
theorem specRule_eq (m w : Int) : spec_IsRule.f m w = some (decide (ruleOk m w)) := by
  simp only [spec_IsRule.f, l1In_eq, Option.bind_some, decide_eq_true_eq]
  by_cases h : 1 ≤ w ∧ w ≤ 10
  · rw [if_pos h, wrap_id (by omega) (by omega)]
    congr 1
    exact decide_eq_decide.2 ⟨fun q => ⟨h, q⟩, fun q => q.2⟩
  · rw [if_neg h, decide_eq_false (fun q : ruleOk m w => h q.1)]
theorem implRule_eq (m w : Int) : impl_IsRule.f m w = some (decide (ruleOk m w)) := by
  simp only [impl_IsRule.f, InRange_eq, Option.bind_some, decide_eq_true_eq]
  by_cases h : 1 ≤ w ∧ w ≤ 10
  · rw [if_pos h, wrap_id (by omega) (by omega)]
    congr 1
    exact decide_eq_decide.2 ⟨fun q => ⟨h, q⟩, fun q => q.2⟩
  · rw [if_neg h, decide_eq_false (fun q : ruleOk m w => h q.1)]
def cnt (l : List Bool) : Int := ((l.filter id).length : Int)
def stepCS : Nat → Int → Bool → Int ⊕ Int := fun _ s x => .inr (if x = true then wrap64 (s + 1) else s)
theorem runCS : ∀ (l : List Bool) (i : Nat) (s : Int), 0 ≤ s → s + l.length ≤ 4611686018427387904 → run stepCS id i s l = s + cnt l
  | [], i, s, _, _ => by simp [run, cnt]
  | x :: t, i, s, h0, h1 => by
    rw [List.length_cons] at h1
    cases x with
    | true =>
      rw [run_inr (s' := s + 1) (by show Sum.inr (if true = true then wrap64 (s + 1) else s) = _; rw [if_pos rfl, wrap_id (by omega) (by omega)]), runCS t (i + 1) (s + 1) (by omega) (by omega)]
      simp only [cnt, List.filter_cons, id, if_true, List.length_cons]
      omega
    | false =>
      rw [run_inr (s' := s) rfl, runCS t (i + 1) s h0 (by omega)]
      rfl
theorem specCS_at (l : List Bool) (hl : l.length ≤ 2097152) : ∀ k, l.length < k → spec_CountStorms.f k l = some (cnt l) := by
  have h := at_loop0 (fun k s i => spec_CountStorms.l0 k l s i) l stepCS id (by omega) 0
    (fun k s => by simp only [spec_CountStorms.l0]; rw [if_neg (by omega)]; rfl)
    (fun k s i x hx hw => by
      have hi := lt_of_get hx
      have hr : rdOf false l (i : Int) = x := getD_of false hx
      simp only [spec_CountStorms.l0, hr, hw]; rw [if_pos (by omega), if_pos (by omega)]
      simp only [stepCS, Sum.elim_inr]; split <;> rfl)
  rw [runCS l 0 0 (by omega) (by omega), Int.zero_add] at h
  exact h
theorem implCS_at (l : List Bool) (hl : l.length ≤ 2097152) : ∀ k, l.length < k → impl_CountStorms.f k l = some (cnt l) := by
  have h := at_loop0 (fun k s i => impl_CountStorms.l0 k s l (l.length : Int) i) l stepCS id (by omega) 0
    (fun k s => by simp only [impl_CountStorms.l0]; rw [if_neg (by omega)]; rfl)
    (fun k s i x hx hw => by
      have hi := lt_of_get hx
      have hr : rdOf false l (i : Int) = x := getD_of false hx
      simp only [impl_CountStorms.l0, hr, hw]; rw [if_pos (by omega), if_pos (by omega), if_pos (by omega)]
      simp only [stepCS, Sum.elim_inr]; split <;> rfl)
  rw [runCS l 0 0 (by omega) (by omega), Int.zero_add] at h
  exact h
def lastN (n : Nat) (l : List Bool) : List Bool := l.drop (l.length - n)
theorem lastN_len (n : Nat) (l : List Bool) : (lastN n l).length ≤ n ∧ (lastN n l).length ≤ l.length := by
  unfold lastN
  rw [List.length_drop]
  omega
theorem lastN_snoc (n : Nat) (l : List Bool) (b : Bool) : lastN (n + 1) (l ++ [b]) = lastN n l ++ [b] := by
  unfold lastN
  rw [List.length_append, List.length_singleton, show l.length + 1 - (n + 1) = l.length - n from by omega, List.drop_append_of_le_length (by omega)]
theorem lastN_lastN (m n : Nat) (l : List Bool) (h : m ≤ n) : lastN m (lastN n l) = lastN m l := by
  unfold lastN
  rw [List.length_drop, List.drop_drop]
  congr 1
  omega
theorem implLast_eq (l : List Bool) (n : Nat) (hl : l.length ≤ 2097153) (hn : n ≤ 1000) : impl_last.f l (n : Int) = some (lastN n l) := by
  unfold impl_last.f
  rw [wrap_id (by omega) (by omega)]
  have e : mx ((l.length : Int) - (n : Int)) 0 = ((l.length - n : Nat) : Int) := by
    unfold mx
    split <;> omega
  rw [e, if_pos (by omega), if_pos (by omega), Int.toNat_natCast]
  rfl
def may (m w : Int) (l : List Bool) : Bool := decide (ruleOk m w ∧ cnt (lastN (w - 1).toNat l) < m)
/-- Two pasts that are the same as far as a rule can see. -/
def Same (p q : List Bool) : Prop := lastN 10 p = lastN 10 q
theorem may_same {p q : List Bool} (m w : Int) (h : Same p q) : may m w p = may m w q := by
  unfold may
  by_cases r : ruleOk m w
  · have hw := r.1
    have e : lastN (w - 1).toNat p = lastN (w - 1).toNat q := by
      rw [← lastN_lastN (w - 1).toNat 10 p (by omega), ← lastN_lastN (w - 1).toNat 10 q (by omega), h]
    rw [e]
  · rw [decide_eq_false (fun q => r q.1), decide_eq_false (fun q => r q.1)]
theorem same_add {p q : List Bool} (b : Bool) (h : Same p q) : Same (p ++ [b]) (lastN 10 (q ++ [b])) := by
  unfold Same
  rw [lastN_lastN 10 10 _ (Nat.le_refl _), lastN_snoc 9, lastN_snoc 9, ← lastN_lastN 9 10 p (by omega), ← lastN_lastN 9 10 q (by omega), h]
theorem cnt_snoc (l : List Bool) : cnt (l ++ [true]) = cnt l + 1 := by
  unfold cnt
  simp
theorem cnt_nonneg (l : List Bool) : 0 ≤ cnt l := by
  unfold cnt
  omega
theorem cnt_tail (l : List Bool) : ∀ (j n : Nat), j ≤ n → (j : Int) ≤ cnt (lastN n (l ++ List.replicate j true))
  | 0, n, _ => cnt_nonneg _
  | j + 1, n, h => by
    obtain ⟨n, rfl⟩ : ∃ m, n = m + 1 := ⟨n - 1, by omega⟩
    rw [List.replicate_succ', ← List.append_assoc, lastN_snoc, cnt_snoc]
    have := cnt_tail l j n (by omega)
    omega
/-- After most storms in a row there is none more. -/
theorem may_end (m w : Int) (l : List Bool) (j : Nat) (hj : m ≤ j) : may m w (l ++ List.replicate j true) = false := by
  refine decide_eq_false (fun h => ?_)
  have hw := h.1
  obtain ⟨i, hi⟩ : ∃ i, j = i + m.toNat := ⟨j - m.toNat, by omega⟩
  have e : l ++ List.replicate j true = (l ++ List.replicate i true) ++ List.replicate m.toNat true := by rw [hi, ← List.replicate_append_replicate, List.append_assoc]
  have := cnt_tail (l ++ List.replicate i true) m.toNat (w - 1).toNat (by have := hw.1; have := hw.2; omega)
  rw [← e] at this
  have h2 := h.2
  have := hw.2
  omega
def kf (m w : Int) (l : List Bool) : Nat → Nat → Bool
  | 0, _ => true
  | n + 1, e => if cnt (lastN w.toNat (l.take e)) > m then false else kf m w l n (e + 1)
theorem kf_succ (m w : Int) (l : List Bool) (n e : Nat) : kf m w l (n + 1) e = if cnt (lastN w.toNat (l.take e)) > m then false else kf m w l n (e + 1) := rfl
def mKeeps (m w : Int) (l : List Bool) : Bool := decide (ruleOk m w) && kf m w l l.length 1
theorem specK_down (m w : Int) (r : ruleOk m w) (l : List Bool) (hl : l.length ≤ 2097152) : ∀ (n i : Nat), i + n = l.length → Ev (fun k => spec_Keeps.l0 k l (i : Int) m w) (kf m w l n (i + 1))
  | 0, i, h => by
    refine Ev.step (f := fun _ => some true) (fun k => ?_) (Ev.now _)
    simp only [spec_Keeps.l0]
    rw [if_neg (by omega)]
  | n + 1, i, h => by
    have hw := r.1
    have hlen : (l.take (i + 1)).length = i + 1 := by rw [List.length_take]; omega
    have hN := lastN_len w.toNat (l.take (i + 1))
    have e : spec_Max.f 0 (wrap64 ((i : Int) + 1 - w)) = some ((i + 1 - w.toNat : Nat) : Int) := by
      rw [wrap_id (by omega) (by omega)]
      unfold spec_Max.f
      by_cases c : (i : Int) + 1 - w > 0
      · rw [if_pos c]
        congr 1
        omega
      · rw [if_neg c]
        congr 1
        omega
    refine Ev.step (f := fun k => (spec_CountStorms.f k (lastN w.toNat (l.take (i + 1)))).bind fun t121 => (if t121 > m then (some false) else (spec_Keeps.l0 k l ((i + 1 : Nat) : Int) m w))) (fun k => ?_) ?_
    · simp only [spec_Keeps.l0, wrapi i (by omega), e, Option.bind_some, Int.toNat_natCast]
      rw [if_pos (by omega), if_pos (by omega), if_pos (by omega), if_pos (by omega), show ((i : Int) + 1).toNat = i + 1 from by omega, Int.natCast_add, Int.natCast_one]
      unfold lastN
      rw [hlen]
    refine Ev.bind (ev_at (specCS_at _ (by omega))) ?_
    rw [kf_succ]
    by_cases c : cnt (lastN w.toNat (l.take (i + 1))) > m
    · simp only [if_pos c]
      exact Ev.now _
    · simp only [if_neg c]
      exact specK_down m w r l hl n (i + 1) (by omega)
theorem implK_down (m w : Int) (r : ruleOk m w) (l : List Bool) (hl : l.length ≤ 2097152) : ∀ (n e : Nat), e + n = l.length + 1 → Ev (fun k => impl_Keeps.l0 k l ((l.length : Int) + 1) (e : Int) m w) (kf m w l n e)
  | 0, e, h => by
    refine Ev.step (f := fun _ => some true) (fun k => ?_) (Ev.now _)
    simp only [impl_Keeps.l0]
    rw [if_neg (by omega)]
  | n + 1, e, h => by
    have hw := r.1
    have hlen : (l.take e).length = e := by rw [List.length_take]; omega
    have hN := lastN_len w.toNat (l.take e)
    have hL := implLast_eq (l.take e) w.toNat (by omega) (by omega)
    rw [show ((w.toNat : Nat) : Int) = w from by omega] at hL
    refine Ev.step (f := fun k => (impl_CountStorms.f k (lastN w.toNat (l.take e))).bind fun t121 => (if t121 > m then (some false) else (impl_Keeps.l0 k l ((l.length : Int) + 1) ((e + 1 : Nat) : Int) m w))) (fun k => ?_) ?_
    · simp only [impl_Keeps.l0, wrapi e (by omega), Int.toNat_natCast, hL, Option.bind_some]
      rw [if_pos (by omega), if_pos (by omega), if_pos (by omega), Int.natCast_add, Int.natCast_one]
    refine Ev.bind (ev_at (implCS_at _ (by omega))) ?_
    rw [kf_succ]
    by_cases c : cnt (lastN w.toNat (l.take e)) > m
    · simp only [if_pos c]
      exact Ev.now _
    · simp only [if_neg c]
      exact implK_down m w r l hl n (e + 1) (by omega)
theorem specK_ev (m w : Int) (l : List Bool) (hl : l.length ≤ 2097152) : Ev (fun k => spec_Keeps.f k m w l) (mKeeps m w l) := by
  unfold mKeeps
  simp only [spec_Keeps.f, specRule_eq, Option.bind_some, decide_eq_true_eq]
  by_cases r : ruleOk m w
  · simp only [if_pos r, decide_eq_true r, Bool.true_and]
    exact specK_down m w r l hl l.length 0 (by omega)
  · simp only [if_neg r, decide_eq_false r, Bool.false_and]
    exact Ev.now _
theorem implK_ev (m w : Int) (l : List Bool) (hl : l.length ≤ 2097152) : Ev (fun k => impl_Keeps.f k m w l) (mKeeps m w l) := by
  unfold mKeeps
  simp only [impl_Keeps.f, implRule_eq, Option.bind_some, decide_eq_true_eq]
  by_cases r : ruleOk m w
  · have hm := r.2
    have h := implK_down m w r l hl (l.length + 1) 0 (by omega)
    have hz : ¬ cnt (lastN w.toNat (l.take 0)) > m := by
      have : cnt (lastN w.toNat (l.take 0)) = 0 := by simp [lastN, cnt]
      omega
    rw [kf_succ, if_neg hz] at h
    simp only [if_pos r, decide_eq_true r, Bool.true_and, wrapi l.length (by omega)]
    exact h
  · simp only [if_neg r, decide_eq_false r, Bool.false_and]
    exact Ev.now _
def thatN (m w : Int) (past : List Bool) : List (List Bool) → Int
  | [] => 0
  | x :: t => (if mKeeps m w (past ++ x) = true then 1 else 0) + thatN m w past t
theorem thatN_range (m w : Int) (past : List Bool) : ∀ t, 0 ≤ thatN m w past t ∧ thatN m w past t ≤ (t.length : Int)
  | [] => ⟨Int.le_refl _, Int.le_refl _⟩
  | x :: t => by
    have := thatN_range m w past t
    rw [List.length_cons]
    show 0 ≤ (if mKeeps m w (past ++ x) = true then 1 else 0) + thatN m w past t ∧ (if mKeeps m w (past ++ x) = true then 1 else 0) + thatN m w past t ≤ ((t.length + 1 : Nat) : Int)
    split <;> omega
theorem specTK_down (m w : Int) (past : List Bool) (l : List (List Bool)) (hp : past.length ≤ 1048576) (hl : l.length ≤ 1048576) (hr : ∀ x ∈ l, x.length ≤ 1048576) : ∀ (t d : List (List Bool)) (s : Int), l = d ++ t → 0 ≤ s → s ≤ d.length → Ev (fun k => spec_ThatKeep.l0 k past l s (d.length : Int) m w) (s + thatN m w past t)
  | [], d, s, h, _, _ => by
    have hlen : l.length = d.length := by rw [h]; simp
    refine Ev.step (f := fun _ => some s) (fun k => ?_) (by rw [show s + thatN m w past [] = s from by show s + 0 = s; omega]; exact Ev.now _)
    simp only [spec_ThatKeep.l0]
    rw [if_neg (by omega)]
  | x :: t, d, s, h, h0, h1 => by
    have hlen : l.length = d.length + (t.length + 1) := by rw [h]; simp
    have hx : l[d.length]? = some x := by rw [h]; simp
    have hrd : rd_L1 l (d.length : Int) = x := getD_of [] hx
    have hxl := hr x (by rw [h]; simp)
    have q3 : ([] : List Bool).length + past.length < 140737488355328 := by simp; omega
    have q4 : past.length + x.length < 140737488355328 := by omega
    refine Ev.step (f := fun k => (spec_Keeps.f k m w (past ++ x)).bind fun t133 => (if t133 = true then (spec_ThatKeep.l0 k past l (s + 1) ((d.length : Int) + 1) m w) else (spec_ThatKeep.l0 k past l s ((d.length : Int) + 1) m w))) (fun k => ?_) ?_
    · simp only [spec_ThatKeep.l0, hrd, Option.bind_some, List.nil_append, q3, q4, if_true, wrapi d.length (by omega), wrap_id (n := s + 1) (by omega) (by omega)]
      rw [if_pos (by omega), if_pos (by omega)]
    refine Ev.bind (specK_ev m w _ (by rw [List.length_append]; omega)) ?_
    have ih := fun s' h0' h1' => specTK_down m w past l hp hl hr t (d ++ [x]) s' (by rw [h]; simp) h0' h1'
    rw [List.length_append, List.length_singleton, show ((d.length + 1 : Nat) : Int) = (d.length : Int) + 1 from by omega] at ih
    by_cases c : mKeeps m w (past ++ x) = true
    · simp only [if_pos c]
      rw [show s + thatN m w past (x :: t) = s + 1 + thatN m w past t from by show s + ((if mKeeps m w (past ++ x) = true then 1 else 0) + thatN m w past t) = _; rw [if_pos c]; omega]
      exact ih (s + 1) (by omega) (by omega)
    · simp only [if_neg c]
      rw [show s + thatN m w past (x :: t) = s + thatN m w past t from by show s + ((if mKeeps m w (past ++ x) = true then 1 else 0) + thatN m w past t) = _; rw [if_neg c]; omega]
      exact ih s (by omega) (by omega)
theorem implTK_down (m w : Int) (past : List Bool) (l : List (List Bool)) (hp : past.length ≤ 1048576) (hl : l.length ≤ 1048576) (hr : ∀ x ∈ l, x.length ≤ 1048576) : ∀ (t d : List (List Bool)) (s : Int), l = d ++ t → 0 ≤ s → s ≤ d.length → Ev (fun k => impl_ThatKeep.l0 k past s l (l.length : Int) (d.length : Int) m w) (s + thatN m w past t)
  | [], d, s, h, _, _ => by
    have hlen : l.length = d.length := by rw [h]; simp
    refine Ev.step (f := fun _ => some s) (fun k => ?_) (by rw [show s + thatN m w past [] = s from by show s + 0 = s; omega]; exact Ev.now _)
    simp only [impl_ThatKeep.l0]
    rw [if_neg (by omega)]
  | x :: t, d, s, h, h0, h1 => by
    have hlen : l.length = d.length + (t.length + 1) := by rw [h]; simp
    have hx : l[d.length]? = some x := by rw [h]; simp
    have hrd : rd_L1 l (d.length : Int) = x := getD_of [] hx
    have hxl := hr x (by rw [h]; simp)
    have q3 : ([] : List Bool).length + past.length < 140737488355328 := by simp; omega
    have q4 : past.length + x.length < 140737488355328 := by omega
    refine Ev.step (f := fun k => (impl_Keeps.f k m w (past ++ x)).bind fun t133 => (if t133 = true then (impl_ThatKeep.l0 k past (s + 1) l (l.length : Int) ((d.length : Int) + 1) m w) else (impl_ThatKeep.l0 k past s l (l.length : Int) ((d.length : Int) + 1) m w))) (fun k => ?_) ?_
    · simp only [impl_ThatKeep.l0, hrd, Option.bind_some, List.nil_append, q3, q4, if_true, wrapi d.length (by omega), wrap_id (n := s + 1) (by omega) (by omega)]
      rw [if_pos (by omega), if_pos (by omega), if_pos (by omega)]
    refine Ev.bind (implK_ev m w _ (by rw [List.length_append]; omega)) ?_
    have ih := fun s' h0' h1' => implTK_down m w past l hp hl hr t (d ++ [x]) s' (by rw [h]; simp) h0' h1'
    rw [List.length_append, List.length_singleton, show ((d.length + 1 : Nat) : Int) = (d.length : Int) + 1 from by omega] at ih
    by_cases c : mKeeps m w (past ++ x) = true
    · simp only [if_pos c]
      rw [show s + thatN m w past (x :: t) = s + 1 + thatN m w past t from by show s + ((if mKeeps m w (past ++ x) = true then 1 else 0) + thatN m w past t) = _; rw [if_pos c]; omega]
      exact ih (s + 1) (by omega) (by omega)
    · simp only [if_neg c]
      rw [show s + thatN m w past (x :: t) = s + thatN m w past t from by show s + ((if mKeeps m w (past ++ x) = true then 1 else 0) + thatN m w past t) = _; rw [if_neg c]; omega]
      exact ih s (by omega) (by omega)
theorem szSS_down (l : List (List Bool)) (hl : l.length ≤ 1048576) : ∀ (t d : List (List Bool)) (a : Int), l = d ++ t → 0 ≤ a → a ≤ 1048576 → (∀ x ∈ t, x.length ≤ maxLen) →
    ∃ r, Ev (fun k => laws_szBoolSS.l0 k l a (d.length : Int)) r ∧ (r < 0 ∨ (0 ≤ r ∧ ∀ x ∈ t, x.length ≤ 1048576))
  | [], d, a, h, h0, h1, _ => by
    have hlen : l.length = d.length := by rw [h]; simp
    refine ⟨a, Ev.step (f := fun _ => some a) (fun k => ?_) (Ev.now _), .inr ⟨h0, fun x hx => by cases hx⟩⟩
    simp only [laws_szBoolSS.l0]
    rw [if_neg (by omega)]
  | x :: t, d, a, h, h0, h1, hm => by
    have hlen : l.length = d.length + (t.length + 1) := by rw [h]; simp
    have hx : l[d.length]? = some x := by rw [h]; simp
    have hrd : rd_L1 l (d.length : Int) = x := getD_of [] hx
    have hxm := hm x (List.mem_cons_self ..)
    have es := szBoolS_eq x a hxm h0 h1
    by_cases c : a - (x.length : Int) < 0
    · rw [if_pos c] at es
      refine ⟨-1, Ev.step (f := fun _ => some (-1)) (fun k => ?_) (Ev.now _), .inl (by decide)⟩
      simp only [laws_szBoolSS.l0, hrd, es, Option.bind_some]
      rw [if_pos (by omega), if_pos (by omega), if_pos (by decide)]
    · rw [if_neg c] at es
      obtain ⟨r, he, hr⟩ := szSS_down l hl t (d ++ [x]) (a - (x.length : Int)) (by rw [h]; simp) (by omega) (by omega) (fun y hy => hm y (List.mem_cons_of_mem _ hy))
      rw [List.length_append, List.length_singleton, show ((d.length + 1 : Nat) : Int) = (d.length : Int) + 1 from by omega] at he
      refine ⟨r, Ev.step (fun k => ?_) he, hr.imp id (fun q => ⟨q.1, fun y hy => ?_⟩)⟩
      · simp only [laws_szBoolSS.l0, hrd, es, Option.bind_some, wrapi d.length (by omega)]
        rw [if_pos (by omega), if_pos (by omega), if_neg c]
      · rcases List.mem_cons.1 hy with rfl | hy
        · omega
        · exact q.2 y hy
theorem szSS_ev (l : List (List Bool)) (hl : l.length ≤ maxLen) (hm : ∀ x ∈ l, x.length ≤ maxLen) : ∃ r, Ev (fun k => laws_szBoolSS.f k l 1048576) r ∧ (r < 0 ∨ (0 ≤ r ∧ l.length ≤ 1048576 ∧ ∀ x ∈ l, x.length ≤ 1048576)) := by
  have hw : wrap64 (1048576 - (l.length : Int)) = 1048576 - (l.length : Int) := wrap_id (by unfold maxLen at hl; omega) (by omega)
  simp only [laws_szBoolSS.f, hw]
  by_cases c : 1048576 - (l.length : Int) < 0
  · simp only [if_pos c]
    exact ⟨-1, Ev.now _, .inl (by decide)⟩
  · simp only [if_neg c]
    obtain ⟨r, he, hr⟩ := szSS_down l (by omega) l [] (1048576 - (l.length : Int)) rfl (by omega) (by omega) hm
    exact ⟨r, he, hr.imp id (fun q => ⟨q.1, by omega, q.2⟩)⟩
theorem toSS_down (l : List (List Bool)) (hl : l.length ≤ 1048576) (hr : ∀ x ∈ l, x.length ≤ 1048576) : ∀ (t d : List (List Bool)), l = d ++ t → Ev (fun k => laws_toBoolSS.l0 k l (d ++ List.replicate t.length []) (d.length : Int)) l
  | [], d, h => by
    have hlen : l.length = d.length := by rw [h]; simp
    have hd : l = d := by rw [h]; simp
    refine Ev.step (f := fun _ => some l) (fun k => ?_) (Ev.now _)
    simp only [laws_toBoolSS.l0]
    rw [if_neg (by omega), List.length_nil, List.replicate_zero, List.append_nil, ← hd]
  | x :: t, d, h => by
    have hlen : l.length = d.length + (t.length + 1) := by rw [h]; simp
    have hx : l[d.length]? = some x := by rw [h]; simp
    have hrd : rd_L1 l (d.length : Int) = x := getD_of [] hx
    have ih := toSS_down l hl hr t (d ++ [x]) (by rw [h]; simp)
    rw [List.length_append, List.length_singleton, show ((d.length + 1 : Nat) : Int) = (d.length : Int) + 1 from by omega] at ih
    refine Ev.step (f := fun k => (laws_toBoolS.f k x).bind fun t138 => laws_toBoolSS.l0 k l ((d ++ List.replicate (x :: t).length []).set d.length t138) ((d.length : Int) + 1)) (fun k => ?_) (Ev.bind (toBoolS_ev x (hr x (by rw [h]; simp))) ?_)
    · simp only [laws_toBoolSS.l0, hrd, wrapi d.length (by omega), Int.toNat_natCast]
      rw [if_pos (by omega), if_pos (by omega)]
      have hb : ((d.length : Int) < ((d ++ List.replicate (x :: t).length ([] : List Bool)).length : Int)) := by simp; omega
      simp only [if_pos hb]
    · rw [List.length_cons, List.replicate_succ, set_append _ _ _ _ _ rfl]
      exact ih
theorem toSS_ev (l : List (List Bool)) (hl : l.length ≤ 1048576) (hr : ∀ x ∈ l, x.length ≤ 1048576) : Ev (fun k => laws_toBoolSS.f k l) l := by
  have h := toSS_down l hl hr l [] rfl
  refine Ev.congr (fun k => ?_) h
  simp only [laws_toBoolSS.f, Int.toNat_natCast]
  rw [if_pos (by omega), if_pos (by omega)]
  rfl
theorem eqSS_down (l : List (List Bool)) (hl : l.length ≤ 1048576) (hr : ∀ x ∈ l, x.length ≤ 1048576) : ∀ (t d : List (List Bool)), l = d ++ t → Ev (fun k => laws_eqBoolSS.l0 k l l (d.length : Int)) true
  | [], d, h => by
    have hlen : l.length = d.length := by rw [h]; simp
    refine Ev.step (f := fun _ => some true) (fun k => ?_) (Ev.now _)
    simp only [laws_eqBoolSS.l0]
    rw [if_neg (by omega)]
  | x :: t, d, h => by
    have hlen : l.length = d.length + (t.length + 1) := by rw [h]; simp
    have hx : l[d.length]? = some x := by rw [h]; simp
    have hrd : rd_L1 l (d.length : Int) = x := getD_of [] hx
    have hxl := hr x (by rw [h]; simp)
    have ih := eqSS_down l hl hr t (d ++ [x]) (by rw [h]; simp)
    rw [List.length_append, List.length_singleton, show ((d.length + 1 : Nat) : Int) = (d.length : Int) + 1 from by omega] at ih
    refine Ev.step (f := fun k => (laws_eqBoolS.f k x x).bind fun t172 => if t172 = true then laws_eqBoolSS.l0 k l l ((d.length : Int) + 1) else some false) (fun k => ?_) (Ev.bind (eqBoolS_ev x (by omega)) ?_)
    · simp only [laws_eqBoolSS.l0, hrd, wrapi d.length (by omega)]
      rw [if_pos (by omega), if_pos (by omega), if_pos (by omega)]
    · simp only [if_true]
      exact ih
theorem eqSS_ev (l : List (List Bool)) (hl : l.length ≤ 1048576) (hr : ∀ x ∈ l, x.length ≤ 1048576) : Ev (fun k => laws_eqBoolSS.f k l l) true := by
  simp only [laws_eqBoolSS.f, if_true]
  exact eqSS_down l hl hr l [] rfl
end FnExactThatKeepPf
open FnExactThatKeepPf
theorem FnExactThatKeep : ∀ (a0_0 : Int) (a0_1 : Int) (l1 : List Bool) (l2 : List (List Bool)), I64 a0_0 → I64 a0_1 → l1.length ≤ maxLen → (∀ y ∈ l1, True) → l2.length ≤ maxLen → (∀ y ∈ l2, (y.length ≤ maxLen ∧ ∀ x ∈ y, True)) → ∃ k, laws_FnExactThatKeep.f k a0_0 a0_1 l1 l2 = some true := by
  intro m w l1 l2 _ _ h1 _ h2 h3
  apply Ev.rounds (g := fun k => laws_FnExactThatKeep.f k m w l1 l2)
  unfold laws_FnExactThatKeep.f
  by_cases h : (l1.length : Int) > 1048576
  · simp only [if_pos h]; exact Ev.now _
  · simp only [if_neg h]
    have hl1 : l1.length ≤ 1048576 := by omega
    obtain ⟨r, he, hr⟩ := szSS_ev l2 h2 (fun x hx => (h3 x hx).1)
    refine Ev.bind he ?_
    rcases hr with hr | ⟨hr, hl2, hrow⟩
    · simp only [if_pos hr]; exact Ev.now _
    · simp only [if_neg (show ¬ r < 0 from by omega), laws_toRule.f, Option.bind_some]
      refine Ev.bind (toBoolS_ev l1 (by omega)) ?_
      refine Ev.bind (toSS_ev l2 hl2 hrow) ?_
      have e1 := specTK_down m w l1 l2 hl1 hl2 hrow l2 [] 0 rfl (Int.le_refl 0) (Int.le_refl 0)
      have e2 := implTK_down m w l1 l2 hl1 hl2 hrow l2 [] 0 rfl (Int.le_refl 0) (Int.le_refl 0)
      rw [Int.zero_add] at e1 e2
      refine Ev.bind (f := fun k t183 => _) (show Ev (fun k => spec_ThatKeep.f k m w l1 l2) (thatN m w l1 l2) from e1) ?_
      refine Ev.bind (toBoolS_ev l1 (by omega)) ?_
      refine Ev.bind (toSS_ev l2 hl2 hrow) ?_
      refine Ev.bind (show Ev (fun k => impl_ThatKeep.f k m w l1 l2) (thatN m w l1 l2) from e2) ?_
      simp only [if_true]
      refine Ev.bind (toBoolS_ev l1 (by omega)) ?_
      refine Ev.bind (eqBoolS_ev _ (by omega)) ?_
      simp only [if_true]
      refine Ev.bind (toSS_ev l2 hl2 hrow) ?_
      refine Ev.bind (eqSS_ev l2 hl2 hrow) ?_
      exact Ev.now _
end Go.Proofs.Ytmflebjcnndbpaa.Pure
