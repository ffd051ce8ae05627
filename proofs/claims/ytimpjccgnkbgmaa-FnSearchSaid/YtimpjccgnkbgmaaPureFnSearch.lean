/- FnSearch: the pure statement of the law, over the printed functions. No condition beyond the statement's own. -/
import Derived.Test.YtimpjccgnkbgmaaSFnSearchx16
import Derived.Test.YtimpjccgnkbgmaaLib
import Derived.Test.YtimpjccgnkbgmaaOpens
namespace Go.Proofs.Ytimpjccgnkbgmaa.Pure
open Go.RowKit Go.Proofs.Ytimpjccgnkbgmaa.PFnSearch Go.Proofs.YtimpjccgnkbgmaaW.PrintWords Go.Proofs.YtimpjccgnkbgmaaW.PrintLast Go.Proofs.Ytimpjccgnkbgmaa.Lib Go.Proofs.Ytimpjccgnkbgmaa.Opens
set_option linter.unusedVariables false
set_option linter.unusedSimpArgs false
namespace FnSearchPf
theorem InRange_eq (a b c : Int) : impl_InRange.f a b c = some (decide (b ≤ a ∧ a ≤ c)) := by
  unfold impl_InRange.f
  by_cases h : b ≤ a
  · rw [if_pos h]; simp [h]
  · rw [if_neg h]; simp [h]
theorem l1In_eq (a b c : Int) : spec_l1In.f a b c = some (decide (b ≤ a ∧ a ≤ c)) := by
  unfold spec_l1In.f
  by_cases h : a ≥ b
  · rw [if_pos h]; simp [h]
  · rw [if_neg h]; simp [show ¬ (b ≤ a) from by omega]
/-! ### A land and its cells -/
theorem mul64 {W H : Int} (h0 : 1 ≤ W ∧ W ≤ 8) (h2 : 1 ≤ H ∧ H ≤ 8) : 1 ≤ W * H ∧ W * H ≤ 64 := by
  have hW : W = 1 ∨ W = 2 ∨ W = 3 ∨ W = 4 ∨ W = 5 ∨ W = 6 ∨ W = 7 ∨ W = 8 := by omega
  rcases hW with rfl | rfl | rfl | rfl | rfl | rfl | rfl | rfl <;> omega
def mLand (W H : Int) (C : List Int) : Bool := decide ((1 ≤ W ∧ W ≤ 8) ∧ (1 ≤ H ∧ H ≤ 8) ∧ (C.length : Int) = W * H ∧ ∀ x ∈ C, 0 ≤ x ∧ x ≤ 2)
def mCell (W H : Int) (C : List Int) (n : Int) : Bool := mLand W H C && decide (0 ≤ n ∧ n ≤ (C.length : Int) - 1)
def mOpen (W H : Int) (C : List Int) (n : Int) : Bool := mCell W H C n && (rd C n != 2)
theorem mLand_iff {W H : Int} {C : List Int} : mLand W H C = true ↔ ((1 ≤ W ∧ W ≤ 8) ∧ (1 ≤ H ∧ H ≤ 8) ∧ (C.length : Int) = W * H ∧ ∀ x ∈ C, 0 ≤ x ∧ x ≤ 2) := by simp [mLand]
theorem mLand_len {W H : Int} {C : List Int} (h : mLand W H C = true) : C.length ≤ 64 := by
  obtain ⟨h1, h2, h3, _⟩ := mLand_iff.1 h
  have := mul64 h1 h2
  omega
theorem mCell_iff {W H : Int} {C : List Int} {n : Int} : mCell W H C n = true ↔ mLand W H C = true ∧ 0 ≤ n ∧ n < (C.length : Int) := by
  simp only [mCell, Bool.and_eq_true, decide_eq_true_eq]
  constructor
  · rintro ⟨h, h1, h2⟩; exact ⟨h, h1, by omega⟩
  · rintro ⟨h, h1, h2⟩; exact ⟨h, h1, by omega⟩
theorem mOpen_iff {W H : Int} {C : List Int} {n : Int} : mOpen W H C n = true ↔ mCell W H C n = true ∧ rd C n ≠ 2 := by simp [mOpen]
theorem runAll {p : Int → Prop} [DecidablePred p] : ∀ (l : List Int) (i : Nat), run (fun (_ : Nat) (_ : Unit) (x : Int) => if p x then (.inr () : Bool ⊕ Unit) else .inl false) (fun _ => true) i () l = decide (∀ x ∈ l, p x)
  | [], _ => by simp [run]
  | x :: t, i => by
    by_cases h : p x
    · rw [run_inr (show (if p x then (.inr () : Bool ⊕ Unit) else .inl false) = .inr () from if_pos h), runAll t (i + 1)]
      simp [h]
    · rw [run_inl (show (if p x then (.inr () : Bool ⊕ Unit) else .inl false) = .inl false from if_neg h)]
      simp [h]
theorem implAllIn_ev (l : List Int) (a b : Int) (hl : l.length ≤ 4611686018427387904) : Ev (fun k => impl_allIn.f k l a b) (decide (∀ x ∈ l, a ≤ x ∧ x ≤ b)) := by
  rw [← runAll (p := fun x => a ≤ x ∧ x ≤ b) l 0]
  exact ev_loop0 (fun k _ i => impl_allIn.l0 k a b l (l.length : Int) i) l _ (fun _ => true) hl ()
    (fun k s => by simp only [impl_allIn.l0]; rw [if_neg (by omega)])
    (fun k s i x hx hw => by
      have hi := lt_of_get hx
      have hr : rd l (i : Int) = x := getD_of 0 hx
      simp only [impl_allIn.l0, hr, hw, InRange_eq, Option.bind_some]; rw [if_pos (by omega), if_pos (by omega), if_pos (by omega)]
      by_cases h : a ≤ x ∧ x ≤ b
      · simp [h]
      · simp [h])
theorem implLand_ev (W H : Int) (C : List Int) (hC : C.length ≤ 4611686018427387904) : Ev (fun k => impl_IsLand.f k W H C) (mLand W H C) := by
  unfold impl_IsLand.f
  simp only [InRange_eq, Option.bind_some]
  by_cases h1 : 1 ≤ W ∧ W ≤ 8
  · simp only [decide_eq_true h1, if_true]
    by_cases h2 : 1 ≤ H ∧ H ≤ 8
    · simp only [decide_eq_true h2, if_true]
      have hm := mul64 h1 h2
      simp only [wrap_id (n := W * H) (by omega) (by omega)]
      by_cases h3 : (C.length : Int) = W * H
      · simp only [if_pos h3]
        refine Ev.bind (implAllIn_ev C 0 2 hC) ?_
        have e : mLand W H C = decide (∀ x ∈ C, 0 ≤ x ∧ x ≤ 2) := by simp [mLand, h1, h2, h3]
        rw [e]
        exact Ev.now _
      · simp only [if_neg h3]
        have e : mLand W H C = false := by simp [mLand, h3]
        rw [e]
        exact Ev.now _
    · simp only [decide_eq_false h2, Bool.false_eq_true, if_false]
      have e : mLand W H C = false := by
        cases h : mLand W H C with
        | false => rfl
        | true => exact absurd (mLand_iff.1 h).2.1 h2
      rw [e]
      exact Ev.now _
  · simp only [decide_eq_false h1, Bool.false_eq_true, if_false]
    have e : mLand W H C = false := by
      cases h : mLand W H C with
      | false => rfl
      | true => exact absurd (mLand_iff.1 h).1 h1
    rw [e]
    exact Ev.now _
theorem implCell_ev (W H : Int) (C : List Int) (n : Int) (hC : C.length ≤ 4611686018427387904) : Ev (fun k => impl_IsCell.f k W H C n) (mCell W H C n) := by
  unfold impl_IsCell.f
  refine Ev.bind (implLand_ev W H C hC) ?_
  unfold mCell
  cases mLand W H C with
  | false => simp only [Bool.false_eq_true, if_false, Bool.false_and]; exact Ev.now _
  | true =>
    simp only [if_true, InRange_eq, Option.bind_some, wrap_id (n := (C.length : Int) - 1) (by omega) (by omega), Bool.true_and]
    exact Ev.now _
theorem implOpen_ev (W H : Int) (C : List Int) (n : Int) (hC : C.length ≤ 4611686018427387904) : Ev (fun k => impl_IsOpen.f k W H C n) (mOpen W H C n) := by
  unfold impl_IsOpen.f
  refine Ev.bind (implCell_ev W H C n hC) ?_
  unfold mOpen
  cases h : mCell W H C n with
  | false => simp only [Bool.false_eq_true, if_false, Bool.false_and]; exact Ev.now _
  | true =>
    obtain ⟨_, h0, h1⟩ := mCell_iff.1 h
    simp only [if_true, if_pos h0, if_pos h1, Bool.true_and]
    exact Ev.now _
theorem specLand_loop (W H : Int) (C : List Int) (hl : C.length ≤ 4611686018427387904) : Ev (fun k => spec_IsLand.l0 k 0 W H C) (decide (∀ x ∈ C, 0 ≤ x ∧ x ≤ 2)) := by
  rw [← runAll (p := fun x => 0 ≤ x ∧ x ≤ 2) C 0]
  exact ev_loop0 (fun k _ i => spec_IsLand.l0 k i W H C) C _ (fun _ => true) hl ()
    (fun k s => by simp only [spec_IsLand.l0]; rw [if_neg (by omega)])
    (fun k s i x hx hw => by
      have hi := lt_of_get hx
      have hr : rd C (i : Int) = x := getD_of 0 hx
      simp only [spec_IsLand.l0, hr, hw, l1In_eq, Option.bind_some]; rw [if_pos (by omega), if_pos (by omega)]
      by_cases h : 0 ≤ x ∧ x ≤ 2
      · simp [h]
      · simp [h])
theorem specLand_ev (W H : Int) (C : List Int) (hC : C.length ≤ 4611686018427387904) : Ev (fun k => spec_IsLand.f k W H C) (mLand W H C) := by
  unfold spec_IsLand.f
  simp only [l1In_eq, Option.bind_some]
  have hno : mLand W H C = false → Ev (fun k => spec_IsLand.j0 k true W H C) (mLand W H C) := fun e => by
    rw [e]
    exact Ev.step (f := fun _ => some false) (fun k => by simp [spec_IsLand.j0]) (Ev.now _)
  by_cases h1 : 1 ≤ W ∧ W ≤ 8
  · simp only [decide_eq_true h1, if_true]
    by_cases h2 : 1 ≤ H ∧ H ≤ 8
    · simp only [decide_eq_true h2, if_true]
      have hm := mul64 h1 h2
      simp only [wrap_id (n := W * H) (by omega) (by omega)]
      by_cases h3 : (C.length : Int) = W * H
      · have hb : ((C.length : Int) != W * H) = false := by simp [h3]
        simp only [hb]
        have e : mLand W H C = decide (∀ x ∈ C, 0 ≤ x ∧ x ≤ 2) := by simp [mLand, h1, h2, h3]
        rw [e]
        exact Ev.step (fun k => by simp [spec_IsLand.j0]) (specLand_loop W H C hC)
      · have hb : ((C.length : Int) != W * H) = true := by simp [h3]
        simp only [hb]
        exact hno (by simp [mLand, h3])
    · simp only [decide_eq_false h2, Bool.false_eq_true, if_false]
      refine hno ?_
      cases h : mLand W H C with
      | false => rfl
      | true => exact absurd (mLand_iff.1 h).2.1 h2
  · simp only [decide_eq_false h1, Bool.false_eq_true, if_false]
    refine hno ?_
    cases h : mLand W H C with
    | false => rfl
    | true => exact absurd (mLand_iff.1 h).1 h1
theorem specCell_ev (W H : Int) (C : List Int) (n : Int) (hC : C.length ≤ 4611686018427387904) : Ev (fun k => spec_IsCell.f k W H C n) (mCell W H C n) := by
  unfold spec_IsCell.f
  refine Ev.bind (specLand_ev W H C hC) ?_
  unfold mCell
  cases mLand W H C with
  | false => simp only [Bool.false_eq_true, if_false, Bool.false_and]; exact Ev.now _
  | true =>
    simp only [if_true, l1In_eq, Option.bind_some, wrap_id (n := (C.length : Int) - 1) (by omega) (by omega), Bool.true_and]
    exact Ev.now _
theorem specOpen_ev (W H : Int) (C : List Int) (n : Int) (hC : C.length ≤ 4611686018427387904) : Ev (fun k => spec_IsOpen.f k W H C n) (mOpen W H C n) := by
  unfold spec_IsOpen.f
  refine Ev.bind (specCell_ev W H C n hC) ?_
  unfold mOpen
  cases h : mCell W H C n with
  | false => simp only [Bool.false_eq_true, if_false, Bool.false_and]; exact Ev.now _
  | true =>
    obtain ⟨_, h0, h1⟩ := mCell_iff.1 h
    simp only [if_true, if_pos h0, if_pos h1, Bool.true_and]
    exact Ev.now _
/-! ### What lies beside a cell -/
theorem oct {W : Int} (h : 1 ≤ W ∧ W ≤ 8) : W = 1 ∨ W = 2 ∨ W = 3 ∨ W = 4 ∨ W = 5 ∨ W = 6 ∨ W = 7 ∨ W = 8 := by omega
theorem dm {W a : Int} (h : 1 ≤ W ∧ W ≤ 8) (h0 : 0 ≤ a) (h1 : a < 64) : 0 ≤ Int.tmod a W ∧ Int.tmod a W < W ∧ 0 ≤ Int.tdiv a W ∧ Int.tdiv a W ≤ 63 := by
  rw [Int.tmod_eq_emod_of_nonneg h0, Int.tdiv_eq_ediv_of_nonneg h0]
  rcases oct h with rfl | rfl | rfl | rfl | rfl | rfl | rfl | rfl <;> omega
theorem last_row {W H n : Int} {L : Int} (hW : 1 ≤ W ∧ W ≤ 8) (hH : 1 ≤ H ∧ H ≤ 8) (hL : L = W * H) (h0 : 0 ≤ n) (h1 : n < L) (h : Int.tmod n W < W - 1) : n + 1 < L := by
  rw [Int.tmod_eq_emod_of_nonneg h0] at h
  subst hL
  rcases oct hW with rfl | rfl | rfl | rfl | rfl | rfl | rfl | rfl <;> omega
def mNear (W : Int) (C : List Int) (n : Int) : List Int := (if W ≤ n ∧ rd C (n - W) ≠ 2 then [n - W] else []) ++ ((if Int.tmod n W > 0 ∧ rd C (n - 1) ≠ 2 then [n - 1] else []) ++ ((if Int.tmod n W < W - 1 ∧ rd C (n + 1) ≠ 2 then [n + 1] else []) ++ (if n + W < (C.length : Int) ∧ rd C (n + W) ≠ 2 then [n + W] else [])))
theorem near_mem {W : Int} {C : List Int} {n c : Int} : c ∈ mNear W C n ↔ (W ≤ n ∧ c = n - W ∧ rd C c ≠ 2) ∨ (Int.tmod n W > 0 ∧ c = n - 1 ∧ rd C c ≠ 2) ∨ (Int.tmod n W < W - 1 ∧ c = n + 1 ∧ rd C c ≠ 2) ∨ (n + W < (C.length : Int) ∧ c = n + W ∧ rd C c ≠ 2) := by
  have one : ∀ (p : Prop) [Decidable p] (e : Int), c ∈ (if p ∧ rd C e ≠ 2 then [e] else []) ↔ p ∧ c = e ∧ rd C c ≠ 2 := fun p _ e => by
    by_cases h : p ∧ rd C e ≠ 2
    · rw [if_pos h, List.mem_singleton]
      constructor
      · intro hc; subst hc; exact ⟨h.1, rfl, h.2⟩
      · exact fun hc => hc.2.1
    · rw [if_neg h]
      constructor
      · intro hc; simp at hc
      · rintro ⟨h1, rfl, h2⟩; exact absurd ⟨h1, h2⟩ h
  unfold mNear
  rw [List.mem_append, List.mem_append, List.mem_append, one, one, one, one]
theorem near_in {W H : Int} {C : List Int} {n c : Int} (h : mCell W H C n = true) (hc : c ∈ mNear W C n) : 0 ≤ c ∧ c < (C.length : Int) ∧ rd C c ≠ 2 := by
  obtain ⟨hL, h0, h1⟩ := mCell_iff.1 h
  obtain ⟨hW, hH, hlen, _⟩ := mLand_iff.1 hL
  have h64 := mLand_len hL
  rcases near_mem.1 hc with ⟨a1, rfl, a3⟩ | ⟨a1, rfl, a3⟩ | ⟨a1, rfl, a3⟩ | ⟨a1, rfl, a3⟩
  · exact ⟨by omega, by omega, a3⟩
  · have : 0 < n := by
      rcases (show 0 < n ∨ n ≤ 0 by omega) with h' | h'
      · exact h'
      · have : n = 0 := by omega
        subst this
        simp at a1
    exact ⟨by omega, by omega, a3⟩
  · exact ⟨by omega, last_row hW hH hlen h0 h1 a1, a3⟩
  · exact ⟨by omega, a1, a3⟩
def mAp (W a b : Int) : Int := mx (Int.tmod a W - Int.tmod b W) (-(Int.tmod a W - Int.tmod b W)) + mx (Int.tdiv a W - Int.tdiv b W) (-(Int.tdiv a W - Int.tdiv b W))
def mApart (W H : Int) (C : List Int) (a b : Int) : Int := if mCell W H C a && mCell W H C b then mAp W a b else -1
theorem mx_abs (x : Int) : mx x (-x) = if x < 0 then -x else x := by unfold mx; split <;> split <;> omega
theorem ap_up {W n : Int} (h : 1 ≤ W ∧ W ≤ 8) (h0 : 0 ≤ n - W) (h1 : n < 64) : mAp W n (n - W) = 1 := by
  unfold mAp
  rw [mx_abs, mx_abs, Int.tmod_eq_emod_of_nonneg (by omega), Int.tdiv_eq_ediv_of_nonneg (by omega), Int.tmod_eq_emod_of_nonneg h0, Int.tdiv_eq_ediv_of_nonneg h0]
  rcases oct h with rfl | rfl | rfl | rfl | rfl | rfl | rfl | rfl <;> (split <;> split <;> omega)
theorem ap_down {W n : Int} (h : 1 ≤ W ∧ W ≤ 8) (h0 : 0 ≤ n) (h1 : n < 64) : mAp W n (n + W) = 1 := by
  unfold mAp
  rw [mx_abs, mx_abs, Int.tmod_eq_emod_of_nonneg (by omega), Int.tdiv_eq_ediv_of_nonneg (by omega), Int.tmod_eq_emod_of_nonneg (by omega), Int.tdiv_eq_ediv_of_nonneg (by omega)]
  rcases oct h with rfl | rfl | rfl | rfl | rfl | rfl | rfl | rfl <;> (split <;> split <;> omega)
theorem ap_left {W n : Int} (h : 1 ≤ W ∧ W ≤ 8) (h0 : 0 ≤ n - 1) (h1 : n < 64) : mAp W n (n - 1) = 1 ↔ (Int.tmod n W > 0 ∨ W = 1) := by
  unfold mAp
  rw [mx_abs, mx_abs, Int.tmod_eq_emod_of_nonneg (by omega), Int.tdiv_eq_ediv_of_nonneg (by omega), Int.tmod_eq_emod_of_nonneg (by omega), Int.tdiv_eq_ediv_of_nonneg (by omega)]
  rcases oct h with rfl | rfl | rfl | rfl | rfl | rfl | rfl | rfl <;> (split <;> split <;> omega)
theorem ap_right {W n : Int} (h : 1 ≤ W ∧ W ≤ 8) (h0 : 0 ≤ n) (h1 : n < 64) : mAp W n (n + 1) = 1 ↔ (Int.tmod n W < W - 1 ∨ W = 1) := by
  unfold mAp
  rw [mx_abs, mx_abs, Int.tmod_eq_emod_of_nonneg (by omega), Int.tdiv_eq_ediv_of_nonneg (by omega), Int.tmod_eq_emod_of_nonneg (by omega), Int.tdiv_eq_ediv_of_nonneg (by omega)]
  rcases oct h with rfl | rfl | rfl | rfl | rfl | rfl | rfl | rfl <;> (split <;> split <;> omega)
theorem size_eq (x : Int) (h : -4611686018427387904 ≤ x) (h' : x ≤ 4611686018427387904) : impl_size.f x = some (mx x (-x)) := by
  unfold impl_size.f
  rw [wrap_id (by omega) (by omega)]
theorem implApart_ev (W H : Int) (C : List Int) (a b : Int) (hC : C.length ≤ 4611686018427387904) : Ev (fun k => impl_Apart.f k W H C a b) (mApart W H C a b) := by
  unfold impl_Apart.f
  have hno : Ev (fun k => impl_Apart.j0 k a b true W H C) (-1) := Ev.step (f := fun _ => some (-1)) (fun k => by simp [impl_Apart.j0]) (Ev.now _)
  refine Ev.bind (implCell_ev W H C a hC) ?_
  unfold mApart
  cases ha : mCell W H C a with
  | false => simp only [Bool.false_eq_true, if_false, Bool.false_and]; exact hno
  | true =>
    simp only [if_true, Bool.true_and]
    refine Ev.bind (implCell_ev W H C b hC) ?_
    cases hb : mCell W H C b with
    | false => simp only [Bool.false_eq_true, if_false, Bool.not_false]; exact hno
    | true =>
      simp only [if_true, Bool.not_true]
      refine Ev.step (f := fun _ => some (mAp W a b)) (fun k => ?_) (Ev.now _)
      obtain ⟨hL, ha0, ha1⟩ := mCell_iff.1 ha
      obtain ⟨_, hb0, hb1⟩ := mCell_iff.1 hb
      have hl := mLand_len hL
      have hW := (mLand_iff.1 hL).1
      have da := dm hW ha0 (by omega)
      have db := dm hW hb0 (by omega)
      simp only [impl_Apart.j0, Bool.false_eq_true, if_false]
      rw [if_neg (by omega), wrap_id (n := Int.tmod a W - Int.tmod b W) (by omega) (by omega), wrap_id (n := Int.tdiv a W) (by omega) (by omega), wrap_id (n := Int.tdiv b W) (by omega) (by omega), wrap_id (n := Int.tdiv a W - Int.tdiv b W) (by omega) (by omega), size_eq _ (by omega) (by omega), size_eq _ (by omega) (by omega)]
      simp only [Option.bind_some]
      rw [show mx (Int.tmod a W - Int.tmod b W) (-(Int.tmod a W - Int.tmod b W)) + mx (Int.tdiv a W - Int.tdiv b W) (-(Int.tdiv a W - Int.tdiv b W)) = mAp W a b from rfl, wrap_id]
      · unfold mAp mx
        split <;> split <;> omega
      · unfold mAp mx
        split <;> split <;> omega
def pNear (W H : Int) (C : List Int) (n m : Int) : Bool := mOpen W H C m && decide (mApart W H C n m = 1)
theorem implNear_loop (W H : Int) (C : List Int) (n : Int) (ys : List Int) (hC : C.length ≤ 4611686018427387904) (hy : ys.length ≤ 4) : ∀ (t d out : List Int), ys = d ++ t → out.length ≤ d.length →
    Ev (fun k => impl_Near.l0 k n out ys (ys.length : Int) (d.length : Int) W H C) (Lib.compact (out ++ t.filter (pNear W H C n)))
  | [], d, out, h, ho => by
    have hlen : ys.length = d.length := by rw [h]; simp
    refine Ev.step (f := fun _ => some (Lib.compact out)) (fun k => ?_) ?_
    · simp only [impl_Near.l0, slices_Compact_int_int.f, Option.bind_some]
      rw [if_neg (by omega)]
    · simp only [List.filter_nil, List.append_nil]
      exact Ev.now _
  | y :: t, d, out, h, ho => by
    have hlen : ys.length = d.length + (t.length + 1) := by rw [h]; simp
    have hyy : ys[d.length]? = some y := by rw [h]; simp
    have hr : rd ys (d.length : Int) = y := getD_of 0 hyy
    have ih := fun out' (ho' : out'.length ≤ d.length + 1) => implNear_loop W H C n ys hC hy t (d ++ [y]) out' (by rw [h]; simp) (by simpa using ho')
    simp only [List.length_append, List.length_singleton, show ((d.length + 1 : Nat) : Int) = (d.length : Int) + 1 from by omega] at ih
    refine Ev.step (f := fun k => (impl_IsOpen.f k W H C y).bind fun t130 => (if t130 = true then ((impl_Apart.f k W H C n y).bind fun t131 => (if t131 = 1 then (if out.length < 17592186044416 then (impl_Near.l0 k n (out ++ [y]) ys (ys.length : Int) ((d.length : Int) + 1) W H C) else (none)) else (impl_Near.l0 k n out ys (ys.length : Int) ((d.length : Int) + 1) W H C))) else (impl_Near.l0 k n out ys (ys.length : Int) ((d.length : Int) + 1) W H C))) (fun k => ?_) ?_
    · simp only [impl_Near.l0, hr, wrapi d.length (by omega)]
      rw [if_pos (by omega), if_pos (by omega), if_pos (by omega)]
    · refine Ev.bind (implOpen_ev W H C y hC) ?_
      cases h1 : mOpen W H C y with
      | false =>
        simp only [Bool.false_eq_true, if_false]
        rw [List.filter_cons_of_neg (by simp [pNear, h1])]
        exact ih out (by omega)
      | true =>
        simp only [if_true]
        refine Ev.bind (implApart_ev W H C n y hC) ?_
        by_cases h2 : mApart W H C n y = 1
        · simp only [if_pos h2]
          rw [List.filter_cons_of_pos (by simp [pNear, h1, h2])]
          simp only [if_pos (show out.length < 17592186044416 from by omega)]
          have := ih (out ++ [y]) (by simp; omega)
          rw [List.append_assoc] at this
          exact this
        · simp only [if_neg h2]
          rw [List.filter_cons_of_neg (by simp [pNear, h1, h2])]
          exact ih out (by omega)
theorem compact_asc (l : List Int) (h : l.Pairwise (· < ·)) : Lib.compact l = l := by
  refine Lib.compact_all l (fun j hj => ?_)
  rcases Nat.eq_zero_or_pos j with h0 | h0
  · subst h0; exact Lib.keeps_lt_one _ 0 (by omega)
  · refine Lib.keeps_pos ?_
    have := List.pairwise_iff_getElem.1 h (j - 1) j (by omega) hj (by omega)
    rw [getElem!_pos _ _ (by simpa using hj), getElem!_pos _ _ (by simp; omega)]
    simp only [List.getElem_toArray]
    omega
theorem compact2 (a : Int) : Lib.compact [a, a] = [a] := by simp [Lib.compact, Lib.compactUpTo, Lib.keeps, List.range_succ]
theorem compact4 (a b : Int) (h : a ≠ b) : Lib.compact [a, a, b, b] = [a, b] := by
  have h' : b ≠ a := fun e => h e.symm
  simp [Lib.compact, Lib.compactUpTo, Lib.keeps, List.range_succ, h']
theorem near_eq {W H : Int} {C : List Int} {n : Int} (h : mCell W H C n = true) : Lib.compact ([n - W, n - 1, n + 1, n + W].filter (pNear W H C n)) = mNear W C n := by
  obtain ⟨hL, h0, h1⟩ := mCell_iff.1 h
  obtain ⟨hW, hH, hlen, _⟩ := mLand_iff.1 hL
  have h64 := mLand_len hL
  have hp : ∀ m, pNear W H C n m = decide ((0 ≤ m ∧ m < (C.length : Int)) ∧ rd C m ≠ 2 ∧ mAp W n m = 1) := fun m => by
    unfold pNear mApart
    by_cases hm : 0 ≤ m ∧ m < (C.length : Int)
    · have hc : mCell W H C m = true := mCell_iff.2 ⟨hL, hm⟩
      simp only [h, hc, Bool.and_self, if_true]
      by_cases h2 : rd C m = 2
      · simp [mOpen, h2]
      · simp [mOpen, hc, hm, h2]
    · have hc : mOpen W H C m = false := by
        cases e : mOpen W H C m with
        | false => rfl
        | true => exact absurd (mCell_iff.1 (mOpen_iff.1 e).1).2 hm
      simp [hc, hm]
  have f4 : [n - W, n - 1, n + 1, n + W].filter (pNear W H C n) = (if pNear W H C n (n - W) = true then [n - W] else []) ++ ((if pNear W H C n (n - 1) = true then [n - 1] else []) ++ ((if pNear W H C n (n + 1) = true then [n + 1] else []) ++ (if pNear W H C n (n + W) = true then [n + W] else []))) := by
    simp only [List.filter_cons, List.filter_nil]
    split <;> split <;> split <;> split <;> rfl
  have eU : pNear W H C n (n - W) = decide (W ≤ n ∧ rd C (n - W) ≠ 2) := by
    rw [hp, decide_eq_decide]
    constructor
    · rintro ⟨⟨a, _⟩, b, _⟩; exact ⟨by omega, b⟩
    · rintro ⟨a, b⟩; exact ⟨⟨by omega, by omega⟩, b, ap_up hW (by omega) (by omega)⟩
  have eD : pNear W H C n (n + W) = decide (n + W < (C.length : Int) ∧ rd C (n + W) ≠ 2) := by
    rw [hp, decide_eq_decide]
    constructor
    · rintro ⟨⟨_, a⟩, b, _⟩; exact ⟨a, b⟩
    · rintro ⟨a, b⟩; exact ⟨⟨by omega, a⟩, b, ap_down hW (by omega) (by omega)⟩
  rw [f4]
  by_cases hW1 : W = 1
  · subst hW1
    have m0 : Int.tmod n 1 = 0 := by rw [Int.tmod_eq_emod_of_nonneg h0]; omega
    rw [eU, eD]
    unfold mNear
    simp only [m0]
    have z1 : ¬ ((0 : Int) > 0 ∧ rd C (n - 1) ≠ 2) := fun h => absurd h.1 (by omega)
    have z2 : ¬ ((0 : Int) < 1 - 1 ∧ rd C (n + 1) ≠ 2) := fun h => absurd h.1 (by omega)
    rw [if_neg z1, if_neg z2]
    by_cases c1 : 1 ≤ n ∧ rd C (n - 1) ≠ 2
    · by_cases c2 : n + 1 < (C.length : Int) ∧ rd C (n + 1) ≠ 2
      · rw [if_pos c1, if_pos c2]
        simp only [decide_eq_true c1, decide_eq_true c2, if_true, List.nil_append, List.cons_append]
        exact compact4 _ _ (by omega)
      · rw [if_pos c1, if_neg c2]
        simp only [decide_eq_true c1, decide_eq_false c2, if_true, Bool.false_eq_true, if_false, List.nil_append, List.cons_append]
        exact compact2 _
    · by_cases c2 : n + 1 < (C.length : Int) ∧ rd C (n + 1) ≠ 2
      · rw [if_neg c1, if_pos c2]
        simp only [decide_eq_false c1, decide_eq_true c2, if_true, Bool.false_eq_true, if_false, List.nil_append, List.cons_append]
        exact compact2 _
      · rw [if_neg c1, if_neg c2]
        simp only [decide_eq_false c1, decide_eq_false c2, Bool.false_eq_true, if_false, List.nil_append]
        exact compact_asc [] List.Pairwise.nil
  · have eL : pNear W H C n (n - 1) = decide (Int.tmod n W > 0 ∧ rd C (n - 1) ≠ 2) := by
      rw [hp, decide_eq_decide]
      have hd := dm hW h0 (by omega)
      constructor
      · rintro ⟨⟨a, _⟩, b, c⟩; exact ⟨((ap_left hW a (by omega)).1 c).resolve_right hW1, b⟩
      · rintro ⟨a, b⟩
        have hn : 0 ≤ n - 1 := by
          rcases (show 0 < n ∨ n ≤ 0 by omega) with h' | h'
          · omega
          · have : n = 0 := by omega
            subst this
            simp at a
        exact ⟨⟨hn, by omega⟩, b, (ap_left hW hn (by omega)).2 (.inl a)⟩
    have eR : pNear W H C n (n + 1) = decide (Int.tmod n W < W - 1 ∧ rd C (n + 1) ≠ 2) := by
      rw [hp, decide_eq_decide]
      constructor
      · rintro ⟨⟨_, a⟩, b, c⟩; exact ⟨((ap_right hW h0 (by omega)).1 c).resolve_right hW1, b⟩
      · rintro ⟨a, b⟩; exact ⟨⟨by omega, last_row hW hH hlen h0 h1 a⟩, b, (ap_right hW h0 (by omega)).2 (.inl a)⟩
    rw [eU, eL, eR, eD]
    simp only [decide_eq_true_eq]
    refine compact_asc _ ?_
    split <;> split <;> split <;> split <;> simp <;> omega
theorem implNear_ev (W H : Int) (C : List Int) (n : Int) (h : mCell W H C n = true) : Ev (fun k => impl_Near.f k W H C n) (mNear W C n) := by
  obtain ⟨hL, h0, h1⟩ := mCell_iff.1 h
  have hW := (mLand_iff.1 hL).1
  have h64 := mLand_len hL
  unfold impl_Near.f
  refine Ev.bind (implCell_ev W H C n (by omega)) ?_
  simp only [h, if_true, Option.bind_some]
  rw [wrap_id (n := n - W) (by omega) (by omega), wrap_id (n := n - 1) (by omega) (by omega), wrap_id (n := n + 1) (by omega) (by omega), wrap_id (n := n + W) (by omega) (by omega)]
  have := implNear_loop W H C n [n - W, n - 1, n + 1, n + W] (by omega) (by simp) [n - W, n - 1, n + 1, n + W] [] [] rfl (by simp)
  rw [List.nil_append, near_eq h] at this
  exact this
theorem specNear_ev (W H : Int) (C : List Int) (n : Int) (h : mCell W H C n = true) : Ev (fun k => spec_l4Near.f k W H C n) (mNear W C n) := by
  obtain ⟨hL, h0, h1⟩ := mCell_iff.1 h
  obtain ⟨hW, hH, hlen, _⟩ := mLand_iff.1 hL
  have h64 := mLand_len hL
  have hd := dm hW h0 (by omega)
  have wU : wrap64 (n - W) = n - W := wrap_id (by omega) (by omega)
  have wL : wrap64 (n - 1) = n - 1 := wrap_id (by omega) (by omega)
  have wR : wrap64 (n + 1) = n + 1 := wrap_id (by omega) (by omega)
  have wD : wrap64 (n + W) = n + W := wrap_id (by omega) (by omega)
  have wW : wrap64 (W - 1) = W - 1 := wrap_id (by omega) (by omega)
  have fin : ∀ (o : List Int), o.length ≤ 3 → (if n + W < (C.length : Int) then (if 0 ≤ n + W then (if rd C (n + W) = 2 then some o else if o.length < 17592186044416 then some (o ++ [n + W]) else none) else none) else some o) = some (o ++ (if n + W < (C.length : Int) ∧ rd C (n + W) ≠ 2 then [n + W] else [])) := fun o ho => by
    by_cases c1 : n + W < (C.length : Int)
    · rw [if_pos c1, if_pos (by omega)]
      by_cases c2 : rd C (n + W) = 2
      · rw [if_pos c2, if_neg (fun h => h.2 c2), List.append_nil]
      · rw [if_neg c2, if_pos (by omega), if_pos ⟨c1, c2⟩]
    · rw [if_neg c1, if_neg (fun h => c1 h.1), List.append_nil]
  have s4 : ∀ (o : List Int) (b : Bool), o.length ≤ 2 → Ev (fun k => spec_l4Near.j4 k n o b W H C) (o ++ ((if b = true then [n + 1] else []) ++ (if n + W < (C.length : Int) ∧ rd C (n + W) ≠ 2 then [n + W] else []))) := fun o b ho => by
    refine Ev.step (f := fun _ => some (o ++ ((if b = true then [n + 1] else []) ++ (if n + W < (C.length : Int) ∧ rd C (n + W) ≠ 2 then [n + W] else [])))) (fun k => ?_) (Ev.now _)
    simp only [spec_l4Near.j4, wR, wD]
    cases b with
    | true =>
      simp only [if_true, if_pos (show o.length < 17592186044416 from by omega), Option.bind_some]
      rw [fin _ (by simp; omega), List.append_assoc]
    | false =>
      simp only [Bool.false_eq_true, if_false]
      rw [fin o (by omega), List.nil_append]
  have s3 : ∀ (o : List Int), o.length ≤ 2 → Ev (fun k => spec_l4Near.j3 k n o W H C) (o ++ ((if Int.tmod n W < W - 1 ∧ rd C (n + 1) ≠ 2 then [n + 1] else []) ++ (if n + W < (C.length : Int) ∧ rd C (n + W) ≠ 2 then [n + W] else []))) := fun o ho => by
    by_cases c : Int.tmod n W < W - 1
    · have hn1 := last_row hW hH hlen h0 h1 c
      have := s4 o (rd C (n + 1) != 2) ho
      simp only [c, true_and]
      refine Ev.step (fun k => ?_) (by simpa using this)
      simp only [spec_l4Near.j3, wR, wW]
      rw [if_neg (by omega), if_pos c, if_pos (by omega), if_pos hn1]
    · have := s4 o false ho
      simp only [c, false_and]
      refine Ev.step (fun k => ?_) (by simpa using this)
      simp only [spec_l4Near.j3, wR, wW]
      rw [if_neg (by omega), if_neg c]
  have s2 : ∀ (o : List Int) (b : Bool), o.length ≤ 1 → Ev (fun k => spec_l4Near.j2 k n o b W H C) (o ++ ((if b = true then [n - 1] else []) ++ ((if Int.tmod n W < W - 1 ∧ rd C (n + 1) ≠ 2 then [n + 1] else []) ++ (if n + W < (C.length : Int) ∧ rd C (n + W) ≠ 2 then [n + W] else [])))) := fun o b ho => by
    cases b with
    | true =>
      have := s3 (o ++ [n - 1]) (by simp; omega)
      refine Ev.step (fun k => ?_) (by simpa using this)
      simp only [spec_l4Near.j2, wL, if_true, if_pos (show o.length < 17592186044416 from by omega)]
    | false =>
      have := s3 o (by omega)
      refine Ev.step (fun k => ?_) (by simpa using this)
      simp [spec_l4Near.j2]
  have s1 : ∀ (o : List Int), o.length ≤ 1 → Ev (fun k => spec_l4Near.j1 k n o W H C) (o ++ ((if Int.tmod n W > 0 ∧ rd C (n - 1) ≠ 2 then [n - 1] else []) ++ ((if Int.tmod n W < W - 1 ∧ rd C (n + 1) ≠ 2 then [n + 1] else []) ++ (if n + W < (C.length : Int) ∧ rd C (n + W) ≠ 2 then [n + W] else [])))) := fun o ho => by
    by_cases c : Int.tmod n W > 0
    · have hn : 0 ≤ n - 1 := by
        rcases (show 0 < n ∨ n ≤ 0 by omega) with h' | h'
        · omega
        · have : n = 0 := by omega
          subst this
          simp at c
      have := s2 o (rd C (n - 1) != 2) ho
      simp only [c, true_and]
      refine Ev.step (fun k => ?_) (by simpa using this)
      simp only [spec_l4Near.j1, wL]
      rw [if_neg (by omega), if_pos c, if_pos hn, if_pos (by omega)]
    · have := s2 o false ho
      simp only [c, false_and]
      refine Ev.step (fun k => ?_) (by simpa using this)
      simp only [spec_l4Near.j1, wL]
      rw [if_neg (by omega), if_neg c]
  have s0 : ∀ (b : Bool), Ev (fun k => spec_l4Near.j0 k n [] b W H C) ((if b = true then [n - W] else []) ++ ((if Int.tmod n W > 0 ∧ rd C (n - 1) ≠ 2 then [n - 1] else []) ++ ((if Int.tmod n W < W - 1 ∧ rd C (n + 1) ≠ 2 then [n + 1] else []) ++ (if n + W < (C.length : Int) ∧ rd C (n + W) ≠ 2 then [n + W] else [])))) := fun b => by
    cases b with
    | true =>
      have := s1 [n - W] (by simp)
      refine Ev.step (fun k => ?_) (by simpa using this)
      simp [spec_l4Near.j0, wU]
    | false =>
      have := s1 [] (by simp)
      refine Ev.step (fun k => ?_) (by simpa using this)
      simp [spec_l4Near.j0]
  unfold spec_l4Near.f mNear
  simp only [Option.bind_some, wU]
  by_cases c : W ≤ n
  · have := s0 (rd C (n - W) != 2)
    simp only [c, true_and]
    refine Ev.congr (f := fun k => spec_l4Near.j0 k n [] (rd C (n - W) != 2) W H C) (fun k => ?_) (by simpa using this)
    have e1 : 0 ≤ n - W := by omega
    have e2 : n - W < (C.length : Int) := by omega
    simp only [ge_iff_le, c, e1, e2, if_true]
  · have := s0 false
    simp only [c, false_and]
    refine Ev.congr (f := fun k => spec_l4Near.j0 k n [] false W H C) (fun k => ?_) (by simpa using this)
    simp only [ge_iff_le, c, if_false]
/-! ### The search by breadth -/
def bfsIn (x : Int) : List Int → List Int → List Int → List Int × List Int
  | [], d, q => (d, q)
  | c :: t, d, q => if rd d c < 0 then bfsIn x t (d.set c.toNat (rd d x + 1)) (q ++ [c]) else bfsIn x t d q
def bfs (N : Int → List Int) : Nat → List Int → List Int → List Int
  | 0, d, _ => d
  | _ + 1, d, [] => d
  | m + 1, d, x :: t => bfs N m (bfsIn x (N x) d t).1 (bfsIn x (N x) d t).2
def neg (d : List Int) : Nat := d.countP (fun v => decide (v < 0))
theorem bfsIn_nil (x : Int) (d q : List Int) : bfsIn x [] d q = (d, q) := rfl
theorem bfsIn_cons (x c : Int) (t d q : List Int) : bfsIn x (c :: t) d q = if rd d c < 0 then bfsIn x t (d.set c.toNat (rd d x + 1)) (q ++ [c]) else bfsIn x t d q := rfl
theorem rd_set {d : List Int} {i j v : Int} (hi : 0 ≤ i) (hi' : i < (d.length : Int)) (hj : 0 ≤ j) : rd (d.set i.toNat v) j = if j = i then v else rd d j := by
  unfold rd
  rw [List.getD_eq_getElem?_getD, List.getElem?_set]
  by_cases h : j = i
  · subst h
    rw [if_pos rfl, if_pos (by omega), if_pos rfl]; rfl
  · rw [if_neg (by omega), if_neg h, List.getD_eq_getElem?_getD]
theorem rd_mem {d : List Int} {i : Int} (hi : 0 ≤ i) (hi' : i < (d.length : Int)) : rd d i ∈ d := by
  unfold rd
  rw [List.getD_eq_getElem?_getD, List.getElem?_eq_getElem (by omega), Option.getD_some]
  exact List.getElem_mem _
theorem neg_set : ∀ (d : List Int) (i : Nat) (v : Int), i < d.length → d.getD i 0 < 0 → 0 ≤ v → neg (d.set i v) + 1 = neg d
  | [], i, v, h, _, _ => by simp at h
  | a :: t, 0, v, h, ha, hv => by
    have ha' : a < 0 := by simpa using ha
    simp [neg, List.countP_cons, ha', Int.not_lt.2 hv]
  | a :: t, i + 1, v, h, ha, hv => by
    have ih := neg_set t i v (by simpa using h) (by simpa using ha) hv
    simp only [neg, List.set_cons_succ, List.countP_cons] at ih ⊢
    omega
/-- What holds of the days and of the cells that wait: b bounds the days. -/
def Inv (b : Int) (d q : List Int) : Prop := (∀ v ∈ d, v ≤ b) ∧ 0 ≤ b ∧ ∀ x ∈ q, 0 ≤ x ∧ x < (d.length : Int) ∧ 0 ≤ rd d x
theorem bfsIn_ok (x : Int) (b : Int) : ∀ (t d q : List Int), Inv (b + 1) d q → 0 ≤ x → x < (d.length : Int) → 0 ≤ rd d x → rd d x ≤ b → (∀ c ∈ t, 0 ≤ c ∧ c < (d.length : Int)) →
    Inv (b + 1) (bfsIn x t d q).1 (bfsIn x t d q).2 ∧ (bfsIn x t d q).1.length = d.length ∧ neg (bfsIn x t d q).1 + (bfsIn x t d q).2.length = neg d + q.length
  | [], d, q, h, _, _, _, _, _ => ⟨h, rfl, rfl⟩
  | c :: t, d, q, h, h0, h1, h2, h3, hc => by
    rw [bfsIn_cons]
    obtain ⟨hc0, hc1⟩ := hc c (List.mem_cons_self ..)
    have ht := fun c' hc' => hc c' (List.mem_cons_of_mem _ hc')
    by_cases hn : rd d c < 0
    · rw [if_pos hn]
      obtain ⟨i1, i2, i3⟩ := h
      have hne : x ≠ c := fun e => by subst e; omega
      have hrx : rd (d.set c.toNat (rd d x + 1)) x = rd d x := by rw [rd_set hc0 hc1 h0, if_neg hne]
      have hI : Inv (b + 1) (d.set c.toNat (rd d x + 1)) (q ++ [c]) := by
        refine ⟨fun v hv => ?_, i2, fun y hy => ?_⟩
        · rcases List.mem_or_eq_of_mem_set hv with hv | hv
          · exact i1 v hv
          · omega
        · rw [List.length_set]
          rcases List.mem_append.1 hy with hy | hy
          · obtain ⟨j0, j1, j2⟩ := i3 y hy
            refine ⟨j0, j1, ?_⟩
            rw [rd_set hc0 hc1 j0]; split <;> omega
          · rw [List.mem_singleton] at hy
            subst hy
            refine ⟨hc0, hc1, ?_⟩
            rw [rd_set hc0 hc1 hc0, if_pos rfl]; omega
      have ih := bfsIn_ok x b t (d.set c.toNat (rd d x + 1)) (q ++ [c]) hI h0 (by rw [List.length_set]; exact h1) (by rw [hrx]; exact h2) (by rw [hrx]; exact h3) (fun c' hc' => by rw [List.length_set]; exact ht c' hc')
      refine ⟨ih.1, by rw [ih.2.1, List.length_set], ?_⟩
      have hns := neg_set d c.toNat (rd d x + 1) (by omega) hn (by omega)
      rw [ih.2.2, List.length_append, List.length_singleton]
      omega
    · rw [if_neg hn]
      exact bfsIn_ok x b t d q h h0 h1 h2 h3 ht
def mFrom (W : Int) (C : List Int) (a : Int) : List Int := bfs (mNear W C) C.length ((List.replicate C.length (-1)).set a.toNat 0) [a]
def mDays (W H : Int) (C : List Int) (a b : Int) : Int := if mOpen W H C a && mOpen W H C b then rd (mFrom W C a) b else -1
theorem neg_rep : ∀ n : Nat, neg (List.replicate n (-1)) = n
  | 0 => rfl
  | n + 1 => by
    have := neg_rep n
    simp only [neg, List.replicate_succ, List.countP_cons] at this ⊢
    rw [this]; rfl
theorem start_ok {C : List Int} {a : Int} (h0 : 0 ≤ a) (h1 : a < (C.length : Int)) : Inv 0 ((List.replicate C.length (-1)).set a.toNat 0) [a] ∧ neg ((List.replicate C.length (-1)).set a.toNat 0) + [a].length = C.length ∧ ((List.replicate C.length (-1)).set a.toNat 0).length = C.length := by
  have hr : (List.replicate C.length (-1 : Int)).getD a.toNat 0 = -1 := by
    rw [List.getD_eq_getElem?_getD, List.getElem?_eq_getElem (by simp; omega)]; simp
  have hs := neg_set (List.replicate C.length (-1)) a.toNat 0 (by simp; omega) (by rw [hr]; decide) (by decide)
  rw [neg_rep] at hs
  refine ⟨⟨fun v hv => ?_, Int.le_refl _, fun x hx => ?_⟩, by simpa using hs, by simp⟩
  · rcases List.mem_or_eq_of_mem_set hv with hv | hv
    · have := (List.mem_replicate.1 hv).2; omega
    · omega
  · rw [List.mem_singleton] at hx
    subst hx
    refine ⟨h0, by simpa using h1, ?_⟩
    rw [rd_set h0 (by simpa using h1) h0, if_pos rfl]; exact Int.le_refl _
theorem bfs_len (N : Int → List Int) (n : Nat) (hN : ∀ x, 0 ≤ x → x < (n : Int) → ∀ c ∈ N x, 0 ≤ c ∧ c < (n : Int)) : ∀ (m : Nat) (b : Int) (d q : List Int), Inv b d q → d.length = n → (bfs N m d q).length = n
  | 0, b, d, q, _, h => h
  | m + 1, b, d, [], _, h => h
  | m + 1, b, d, x :: t, hI, h => by
    obtain ⟨j0, j1, j2⟩ := hI.2.2 x (List.mem_cons_self ..)
    have hI' : Inv (b + 1) d t := ⟨fun v hv => by have := hI.1 v hv; omega, by have := hI.2.1; omega, fun y hy => hI.2.2 y (List.mem_cons_of_mem _ hy)⟩
    have := bfsIn_ok x b (N x) d t hI' j0 j1 j2 (hI.1 _ (rd_mem j0 j1)) (fun c hc => by rw [h]; exact hN x j0 (by rw [← h]; exact j1) c hc)
    exact bfs_len N n hN m (b + 1) _ _ this.1 (by rw [this.2.1, h])
theorem mFrom_len {W H : Int} {C : List Int} {a : Int} (h : mOpen W H C a = true) : (mFrom W C a).length = C.length := by
  obtain ⟨hcell, _⟩ := mOpen_iff.1 h
  obtain ⟨hL, h0, h1⟩ := mCell_iff.1 hcell
  obtain ⟨hI, hn, hl⟩ := start_ok (C := C) h0 h1
  exact bfs_len (mNear W C) C.length (fun x hx0 hx1 c hc => by have := near_in (mCell_iff.2 ⟨hL, hx0, hx1⟩) hc; omega) C.length 0 _ _ hI hl
theorem implIn_ev (W H : Int) (C : List Int) (x b : Int) (hb : b ≤ 1152921504606846976) (ns : List Int) (hns : ns.length ≤ 4611686018427387904) (R : List Int → List Int → List Int) (B : Nat) (hB : B ≤ 1099511627776) : ∀ (t e d q : List Int), ns = e ++ t → Inv (b + 1) d q → 0 ≤ x → x < (d.length : Int) → 0 ≤ rd d x → rd d x ≤ b → (∀ c ∈ t, 0 ≤ c ∧ c < (d.length : Int)) → neg d + q.length ≤ B →
    Ev (fun k => impl_distances.l2 k (bfsIn x t d q).1 (bfsIn x t d q).2 W H C) (R (bfsIn x t d q).1 (bfsIn x t d q).2) →
    Ev (fun k => impl_distances.l3 k d q x ns (ns.length : Int) (e.length : Int) W H C) (R (bfsIn x t d q).1 (bfsIn x t d q).2)
  | [], e, d, q, h, _, _, _, _, _, _, _, hR => by
    have hlen : ns.length = e.length := by rw [h]; simp
    refine Ev.step (fun k => ?_) hR
    simp only [impl_distances.l3, bfsIn_nil]
    rw [if_neg (by omega)]
  | c :: t, e, d, q, h, hI, h0, h1, h2, h3, hc, hq, hR => by
    have hlen : ns.length = e.length + (t.length + 1) := by rw [h]; simp
    have hy : ns[e.length]? = some c := by rw [h]; simp
    have hr : rd ns (e.length : Int) = c := getD_of 0 hy
    obtain ⟨hc0, hc1⟩ := hc c (List.mem_cons_self ..)
    have hw : wrap64 (rd d x + 1) = rd d x + 1 := wrap_id (by omega) (by omega)
    have hsnoc : ns = (e ++ [c]) ++ t := by rw [h]; simp
    have hlen1 : ((e ++ [c]).length : Int) = (e.length : Int) + 1 := by simp
    by_cases hn : rd d c < 0
    · rw [bfsIn_cons, if_pos hn] at hR ⊢
      have hok := bfsIn_ok x b [c] d q hI h0 h1 h2 h3 (fun c' hc' => hc c' (by rw [List.mem_singleton] at hc'; rw [hc']; exact List.mem_cons_self ..))
      rw [bfsIn_cons, if_pos hn, bfsIn_nil] at hok
      have hne : x ≠ c := fun e => by subst e; omega
      have hrx : rd (d.set c.toNat (rd d x + 1)) x = rd d x := by rw [rd_set hc0 hc1 h0, if_neg hne]
      have ih := implIn_ev W H C x b hb ns hns R B hB t (e ++ [c]) (d.set c.toNat (rd d x + 1)) (q ++ [c]) hsnoc hok.1 h0 (by rw [List.length_set]; exact h1) (by rw [hrx]; exact h2) (by rw [hrx]; exact h3) (fun c' hc' => by rw [List.length_set]; exact hc c' (List.mem_cons_of_mem _ hc')) (by rw [hok.2.2]; exact hq) hR
      rw [hlen1] at ih
      refine Ev.step (fun k => ?_) ih
      simp only [impl_distances.l3, hr, hw, wrapi e.length (by omega)]
      rw [if_pos (by omega), if_pos (by omega), if_pos (by omega), if_pos hc0, if_pos hc1, if_pos hn, if_pos h0, if_pos h1, if_pos (by omega)]
    · rw [bfsIn_cons, if_neg hn] at hR ⊢
      have ih := implIn_ev W H C x b hb ns hns R B hB t (e ++ [c]) d q hsnoc hI h0 h1 h2 h3 (fun c' hc' => hc c' (List.mem_cons_of_mem _ hc')) hq hR
      rw [hlen1] at ih
      refine Ev.step (fun k => ?_) ih
      simp only [impl_distances.l3, hr, wrapi e.length (by omega)]
      rw [if_pos (by omega), if_pos (by omega), if_pos (by omega), if_pos hc0, if_pos hc1, if_neg hn]
theorem near_len (W : Int) (C : List Int) (x : Int) : (mNear W C x).length ≤ 4 := by
  unfold mNear
  repeat' split
  all_goals simp
theorem implBfs_ev (W H : Int) (C : List Int) (hL : mLand W H C = true) : ∀ (m : Nat) (b : Int) (d q : List Int), b + m ≤ 1152921504606846976 → m ≤ 1099511627776 → Inv b d q → d.length = C.length → neg d + q.length ≤ m → Ev (fun k => impl_distances.l2 k d q W H C) (bfs (mNear W C) m d q)
  | 0, b, d, q, _, _, hI, _, h => by
    have hq : q = [] := List.eq_nil_of_length_eq_zero (by omega)
    subst hq
    refine Ev.step (f := fun _ => some d) (fun k => ?_) (Ev.now _)
    simp [impl_distances.l2]
  | m + 1, b, d, [], _, _, hI, _, h => by
    refine Ev.step (f := fun _ => some d) (fun k => ?_) (Ev.now _)
    simp [impl_distances.l2]
  | m + 1, b, d, x :: t, hb, hm, hI, hd, h => by
    obtain ⟨j0, j1, j2⟩ := hI.2.2 x (List.mem_cons_self ..)
    have hcell : mCell W H C x = true := mCell_iff.2 ⟨hL, j0, by omega⟩
    have hI' : Inv (b + 1) d t := ⟨fun v hv => by have := hI.1 v hv; omega, by have := hI.2.1; omega, fun y hy => hI.2.2 y (List.mem_cons_of_mem _ hy)⟩
    have hN : ∀ c ∈ mNear W C x, 0 ≤ c ∧ c < (d.length : Int) := fun c hc => by
      have := near_in hcell hc
      omega
    have hok := bfsIn_ok x b (mNear W C x) d t hI' j0 j1 j2 (hI.1 _ (rd_mem j0 j1)) hN
    have h64 := mLand_len hL
    rw [List.length_cons] at h
    have ih := implBfs_ev W H C hL m (b + 1) _ _ (by omega) (by omega) hok.1 (by rw [hok.2.1, hd]) (by rw [hok.2.2]; omega)
    have hin := implIn_ev W H C x b (by omega) (mNear W C x) (by have := near_len W C x; omega) (fun d q => bfs (mNear W C) m d q) m (by omega) (mNear W C x) [] d t rfl hI' j0 j1 j2 (hI.1 _ (rd_mem j0 j1)) hN (by omega) ih
    refine Ev.step (f := fun k => (impl_Near.f k W H C x).bind fun t156 => impl_distances.l3 k d t x t156 (t156.length : Int) 0 W H C) (fun k => ?_) ?_
    · have hrx : rd (x :: t) 0 = x := rfl
      simp only [impl_distances.l2, hrx]
      rw [if_pos (show ((x :: t).length : Int) > 0 from by simp only [List.length_cons]; omega), if_pos (show (0 : Int) < ((x :: t).length : Int) from by simp only [List.length_cons]; omega), if_pos (show (1 : Int) ≤ ((x :: t).length : Int) from by simp only [List.length_cons]; omega)]
      rfl
    · refine Ev.bind (implNear_ev W H C x hcell) ?_
      exact hin
theorem implDist_ev (W H : Int) (C : List Int) (a : Int) (h : mOpen W H C a = true) : Ev (fun k => impl_distances.f k W H C [a]) (mFrom W C a) := by
  obtain ⟨hcell, _⟩ := mOpen_iff.1 h
  obtain ⟨hL, h0, h1⟩ := mCell_iff.1 hcell
  have h64 := mLand_len hL
  obtain ⟨hI, hn, hl⟩ := start_ok (C := C) h0 h1
  have hbfs := implBfs_ev W H C hL C.length 0 _ _ (by omega) (by omega) hI hl (by omega)
  unfold impl_distances.f
  have l1 : Ev (fun k => impl_distances.l1 k (List.replicate C.length (-1)) [] [a] (([a].length : Nat) : Int) 0 W H C) (mFrom W C a) := by
    have hra : rd (List.replicate C.length (-1)) a = -1 := by
      unfold rd
      rw [List.getD_eq_getElem?_getD, List.getElem?_eq_getElem (by simp; omega)]; simp
    refine Ev.step (f := fun k => (impl_IsOpen.f k W H C a).bind fun t146 => if t146 = true then impl_distances.l1 k ((List.replicate C.length (-1)).set a.toNat 0) [a] [a] (([a].length : Nat) : Int) 1 W H C else impl_distances.l1 k (List.replicate C.length (-1)) [] [a] (([a].length : Nat) : Int) 1 W H C) (fun k => ?_) ?_
    · have hr0 : rd [a] 0 = a := rfl
      have hw : wrap64 (0 + 1) = 1 := wrap_id (by omega) (by omega)
      simp only [impl_distances.l1, hr0, hw, hra]
      rw [if_pos (by simp), if_pos (by omega), if_pos (by simp), if_pos h0, if_pos (by simpa using h1), if_pos (by omega), if_pos (by simp)]
      rfl
    · refine Ev.bind (implOpen_ev W H C a (by omega)) ?_
      simp only [h, if_true]
      refine Ev.step (fun k => ?_) hbfs
      simp [impl_distances.l1]
  have key : ∀ (n i : Nat), i + n = C.length → Ev (fun k => impl_distances.l0 k [a] (List.replicate i (-1)) (C.length : Int) (i : Int) W H C) (mFrom W C a) := by
    intro n
    induction n with
    | zero =>
      intro i hi
      obtain rfl : i = C.length := by omega
      refine Ev.step (fun k => ?_) l1
      simp only [impl_distances.l0]
      rw [if_neg (by omega)]
    | succ n ih =>
      intro i hi
      have := ih (i + 1) (by omega)
      rw [show ((i + 1 : Nat) : Int) = (i : Int) + 1 from by omega] at this
      refine Ev.step (fun k => ?_) this
      simp only [impl_distances.l0, wrapi i (by omega)]
      rw [if_pos (by omega), if_pos (by simp; omega), List.replicate_succ']
  exact key C.length 0 (by omega)
theorem specIn_ev (W H : Int) (C : List Int) (x b : Int) (hb : b ≤ 1152921504606846976) (ns : List Int) (hns : ns.length ≤ 4611686018427387904) (pre : List Int) (R : List Int → List Int → List Int) (B : Nat) (hB : B + pre.length ≤ 1099511627776) : ∀ (t e d q : List Int), ns = e ++ t → Inv (b + 1) d q → 0 ≤ x → x < (d.length : Int) → 0 ≤ rd d x → rd d x ≤ b → (∀ c ∈ t, 0 ≤ c ∧ c < (d.length : Int)) → neg d + q.length ≤ B →
    Ev (fun k => spec_l5From.l1 k (bfsIn x t d q).1 (pre ++ x :: (bfsIn x t d q).2) ((pre.length : Int) + 1) W H C) (R (bfsIn x t d q).1 (bfsIn x t d q).2) →
    Ev (fun k => spec_l5From.l2 k d (pre ++ x :: q) (pre.length : Int) ns (e.length : Int) W H C) (R (bfsIn x t d q).1 (bfsIn x t d q).2)
  | [], e, d, q, h, _, _, _, _, _, _, _, hR => by
    have hlen : ns.length = e.length := by rw [h]; simp
    refine Ev.step (fun k => ?_) hR
    simp only [spec_l5From.l2, bfsIn_nil, wrapi pre.length (by omega)]
    rw [if_neg (by omega)]
  | c :: t, e, d, q, h, hI, h0, h1, h2, h3, hc, hq, hR => by
    have hlen : ns.length = e.length + (t.length + 1) := by rw [h]; simp
    have hy : ns[e.length]? = some c := by rw [h]; simp
    have hr : rd ns (e.length : Int) = c := getD_of 0 hy
    have hx : rd (pre ++ x :: q) (pre.length : Int) = x := getD_of 0 (by simp)
    obtain ⟨hc0, hc1⟩ := hc c (List.mem_cons_self ..)
    have hw : wrap64 (rd d x + 1) = rd d x + 1 := wrap_id (by omega) (by omega)
    have hsnoc : ns = (e ++ [c]) ++ t := by rw [h]; simp
    have hlen1 : ((e ++ [c]).length : Int) = (e.length : Int) + 1 := by simp
    have hqq : (pre ++ x :: q).length = pre.length + (q.length + 1) := by simp
    by_cases hn : rd d c < 0
    · rw [bfsIn_cons, if_pos hn] at hR ⊢
      have hok := bfsIn_ok x b [c] d q hI h0 h1 h2 h3 (fun c' hc' => hc c' (by rw [List.mem_singleton] at hc'; rw [hc']; exact List.mem_cons_self ..))
      rw [bfsIn_cons, if_pos hn, bfsIn_nil] at hok
      have hne : x ≠ c := fun e => by subst e; omega
      have hrx : rd (d.set c.toNat (rd d x + 1)) x = rd d x := by rw [rd_set hc0 hc1 h0, if_neg hne]
      have ih := specIn_ev W H C x b hb ns hns pre R B hB t (e ++ [c]) (d.set c.toNat (rd d x + 1)) (q ++ [c]) hsnoc hok.1 h0 (by rw [List.length_set]; exact h1) (by rw [hrx]; exact h2) (by rw [hrx]; exact h3) (fun c' hc' => by rw [List.length_set]; exact hc c' (List.mem_cons_of_mem _ hc')) (by rw [hok.2.2]; exact hq) hR
      rw [hlen1] at ih
      refine Ev.step (fun k => ?_) ih
      simp only [spec_l5From.l2, hr, hx, hw, wrapi e.length (by omega)]
      rw [if_pos (by omega), if_pos (by omega), if_pos hc0, if_pos hc1, if_pos hn, if_pos (by omega), if_pos (by omega), if_pos h0, if_pos h1, if_pos (by omega), List.append_assoc, List.cons_append]
    · rw [bfsIn_cons, if_neg hn] at hR ⊢
      have ih := specIn_ev W H C x b hb ns hns pre R B hB t (e ++ [c]) d q hsnoc hI h0 h1 h2 h3 (fun c' hc' => hc c' (List.mem_cons_of_mem _ hc')) hq hR
      rw [hlen1] at ih
      refine Ev.step (fun k => ?_) ih
      simp only [spec_l5From.l2, hr, wrapi e.length (by omega)]
      rw [if_pos (by omega), if_pos (by omega), if_pos hc0, if_pos hc1, if_neg hn]
theorem specNear_len (W : Int) (C : List Int) (x : Int) : (mNear W C x).length ≤ 4 := by
  unfold mNear
  repeat' split
  all_goals simp
theorem specBfs_ev (W H : Int) (C : List Int) (hL : mLand W H C = true) : ∀ (m : Nat) (b : Int) (pre d q : List Int), b + m ≤ 1152921504606846976 → m + pre.length ≤ 1099511627776 → Inv b d q → d.length = C.length → neg d + q.length ≤ m → Ev (fun k => spec_l5From.l1 k d (pre ++ q) (pre.length : Int) W H C) (bfs (mNear W C) m d q)
  | 0, b, pre, d, q, _, _, hI, _, h => by
    have hq : q = [] := List.eq_nil_of_length_eq_zero (by omega)
    subst hq
    refine Ev.step (f := fun _ => some d) (fun k => ?_) (Ev.now _)
    simp [spec_l5From.l1]
  | m + 1, b, pre, d, [], _, _, hI, _, h => by
    refine Ev.step (f := fun _ => some d) (fun k => ?_) (Ev.now _)
    simp [spec_l5From.l1]
  | m + 1, b, pre, d, x :: t, hb, hm, hI, hd, h => by
    obtain ⟨j0, j1, j2⟩ := hI.2.2 x (List.mem_cons_self ..)
    have hcell : mCell W H C x = true := mCell_iff.2 ⟨hL, j0, by omega⟩
    have hI' : Inv (b + 1) d t := ⟨fun v hv => by have := hI.1 v hv; omega, by have := hI.2.1; omega, fun y hy => hI.2.2 y (List.mem_cons_of_mem _ hy)⟩
    have hN : ∀ c ∈ mNear W C x, 0 ≤ c ∧ c < (d.length : Int) := fun c hc => by
      have := near_in hcell hc
      omega
    have hok := bfsIn_ok x b (mNear W C x) d t hI' j0 j1 j2 (hI.1 _ (rd_mem j0 j1)) hN
    have h64 := mLand_len hL
    rw [List.length_cons] at h
    have ih := specBfs_ev W H C hL m (b + 1) (pre ++ [x]) _ _ (by omega) (by simp; omega) hok.1 (by rw [hok.2.1, hd]) (by rw [hok.2.2]; omega)
    rw [List.append_assoc, List.singleton_append, List.length_append, List.length_singleton, show ((pre.length + 1 : Nat) : Int) = (pre.length : Int) + 1 from by omega] at ih
    have hin := specIn_ev W H C x b (by omega) (mNear W C x) (by have := specNear_len W C x; omega) pre (fun d q => bfs (mNear W C) m d q) m (by omega) (mNear W C x) [] d t rfl hI' j0 j1 j2 (hI.1 _ (rd_mem j0 j1)) hN (by omega) ih
    refine Ev.step (f := fun k => (spec_l4Near.f k W H C x).bind fun t231 => spec_l5From.l2 k d (pre ++ x :: t) (pre.length : Int) t231 0 W H C) (fun k => ?_) ?_
    · have hrx : rd (pre ++ x :: t) (pre.length : Int) = x := getD_of 0 (by simp)
      simp only [spec_l5From.l1, hrx]
      rw [if_pos (by simp; omega), if_pos (by omega)]
    · refine Ev.bind (specNear_ev W H C x hcell) ?_
      exact hin
theorem specFrom_ev (W H : Int) (C : List Int) (a : Int) (h : mOpen W H C a = true) : Ev (fun k => spec_l5From.f k W H C a) (mFrom W C a) := by
  obtain ⟨hcell, _⟩ := mOpen_iff.1 h
  obtain ⟨hL, h0, h1⟩ := mCell_iff.1 hcell
  have h64 := mLand_len hL
  obtain ⟨hI, hn, hl⟩ := start_ok (C := C) h0 h1
  have hbfs := specBfs_ev W H C hL C.length 0 [] _ _ (by omega) (by simp; omega) hI hl (by omega)
  unfold spec_l5From.f
  have key : ∀ (n i : Nat), i + n = C.length → Ev (fun k => spec_l5From.l0 k a (List.replicate i (-1)) (i : Int) W H C) (mFrom W C a) := by
    intro n
    induction n with
    | zero =>
      intro i hi
      obtain rfl : i = C.length := by omega
      refine Ev.step (fun k => ?_) hbfs
      simp only [spec_l5From.l0]
      rw [if_neg (by omega), if_pos h0, if_pos (by simpa using h1)]
      rfl
    | succ n ih =>
      intro i hi
      have := ih (i + 1) (by omega)
      rw [show ((i + 1 : Nat) : Int) = (i : Int) + 1 from by omega] at this
      refine Ev.step (fun k => ?_) this
      simp only [spec_l5From.l0, wrapi i (by omega)]
      rw [if_pos (by omega), if_pos (by simp; omega), List.replicate_succ']
  exact key C.length 0 (by omega)
/-! ### What the search by breadth leaves: each day has a day before it, and beside a cell that was reached all is reached within a day -/
def BI (N : Int → List Int) (n : Nat) (b : Int) (d : List Int) : Prop := d.length = n ∧ ∀ x, 0 ≤ x → x < (n : Int) → 0 ≤ rd d x → x = b ∨ ∃ p, 0 ≤ p ∧ p < (n : Int) ∧ rd d p = rd d x - 1 ∧ 0 ≤ rd d p ∧ x ∈ N p
def Done (N : Int → List Int) (d : List Int) (y : Int) : Prop := ∀ c ∈ N y, 0 ≤ rd d c ∧ rd d c ≤ rd d y + 1
structure St (N : Int → List Int) (n : Nat) (b L : Int) (ex : Int → Prop) (d q1 q2 : List Int) : Prop where
  bi : BI N n b d
  L0 : 0 ≤ L
  r1 : ∀ y ∈ q1, 0 ≤ y ∧ y < (n : Int) ∧ rd d y = L
  r2 : ∀ y ∈ q2, 0 ≤ y ∧ y < (n : Int) ∧ rd d y = L + 1
  top : ∀ y, 0 ≤ y → y < (n : Int) → rd d y ≤ L + 1
  dn : ∀ y, 0 ≤ y → y < (n : Int) → 0 ≤ rd d y → ex y ∨ y ∈ q1 ++ q2 ∨ Done N d y
theorem in_fin (N : Int → List Int) (n : Nat) (b L x : Int) (hN : ∀ y, 0 ≤ y → y < (n : Int) → ∀ c ∈ N y, 0 ≤ c ∧ c < (n : Int)) (hx0 : 0 ≤ x) (hx1 : x < (n : Int)) : ∀ (t d q1 q2 : List Int), St N n b L (fun y => y = x) d q1 q2 → rd d x = L → (∀ c ∈ t, c ∈ N x) →
    ∃ q2', (bfsIn x t d (q1 ++ q2)).2 = q1 ++ q2' ∧ St N n b L (fun y => y = x) (bfsIn x t d (q1 ++ q2)).1 q1 q2' ∧ rd (bfsIn x t d (q1 ++ q2)).1 x = L ∧ (∀ c ∈ t, 0 ≤ rd (bfsIn x t d (q1 ++ q2)).1 c) ∧ (∀ y, 0 ≤ y → y < (n : Int) → 0 ≤ rd d y → rd (bfsIn x t d (q1 ++ q2)).1 y = rd d y)
  | [], d, q1, q2, h, hx, _ => ⟨q2, rfl, h, hx, by simp, fun _ _ _ _ => rfl⟩
  | c :: t, d, q1, q2, h, hx, ht => by
    rw [bfsIn_cons]
    have hcN := ht c (List.mem_cons_self ..)
    obtain ⟨hc0, hc1⟩ := hN x hx0 hx1 c hcN
    have hl := h.bi.1
    have hL0 := h.L0
    by_cases hn : rd d c < 0
    · rw [if_pos hn]
      have hs : ∀ y, 0 ≤ y → rd (d.set c.toNat (rd d x + 1)) y = if y = c then rd d x + 1 else rd d y := fun y hy => rd_set hc0 (by rw [hl]; exact hc1) hy
      have hkeep : ∀ y, 0 ≤ y → 0 ≤ rd d y → rd (d.set c.toNat (rd d x + 1)) y = rd d y := fun y hy h0 => by
        rw [hs y hy, if_neg]
        intro e; subst e; omega
      have hxx : rd (d.set c.toNat (rd d x + 1)) x = L := by rw [hkeep x hx0 (by omega), hx]
      have hcc : rd (d.set c.toNat (rd d x + 1)) c = L + 1 := by rw [hs c hc0, if_pos rfl, hx]
      have hS : St N n b L (fun y => y = x) (d.set c.toNat (rd d x + 1)) q1 (q2 ++ [c]) := by
        refine ⟨⟨by rw [List.length_set, hl], fun y hy0 hy1 hyv => ?_⟩, hL0, fun y hy => ?_, fun y hy => ?_, fun y hy0 hy1 => ?_, fun y hy0 hy1 hyv => ?_⟩
        · by_cases hyc : y = c
          · subst hyc
            exact .inr ⟨x, hx0, hx1, by rw [hxx, hcc]; omega, by rw [hxx]; exact hL0, hcN⟩
          · rw [hs y hy0, if_neg hyc] at hyv ⊢
            rcases h.bi.2 y hy0 hy1 hyv with e | ⟨p, p0, p1, p2, p3, p4⟩
            · exact .inl e
            · exact .inr ⟨p, p0, p1, by rw [hkeep p p0 p3]; exact p2, by rw [hkeep p p0 p3]; exact p3, p4⟩
        · obtain ⟨a1, a2, a3⟩ := h.r1 y hy
          exact ⟨a1, a2, by rw [hkeep y a1 (by omega)]; exact a3⟩
        · rcases List.mem_append.1 hy with hy | hy
          · obtain ⟨a1, a2, a3⟩ := h.r2 y hy
            exact ⟨a1, a2, by rw [hkeep y a1 (by omega)]; exact a3⟩
          · rw [List.mem_singleton] at hy
            subst hy
            exact ⟨hc0, hc1, hcc⟩
        · have := h.top y hy0 hy1
          rw [hs y hy0]; split <;> omega
        · by_cases hyc : y = c
          · exact .inr (.inl (by simp [hyc]))
          · rw [hs y hy0, if_neg hyc] at hyv
            rcases h.dn y hy0 hy1 hyv with e | e | e
            · exact .inl e
            · refine .inr (.inl ?_)
              rw [← List.append_assoc]
              exact List.mem_append.2 (.inl e)
            · refine .inr (.inr (fun c' hc' => ?_))
              obtain ⟨e0, e1⟩ := e c' hc'
              obtain ⟨g0, g1⟩ := hN y hy0 hy1 c' hc'
              rw [hkeep c' g0 e0, hkeep y hy0 hyv]
              exact ⟨e0, e1⟩
      obtain ⟨q2', e1, e2, e3, e4, e5⟩ := in_fin N n b L x hN hx0 hx1 t _ q1 (q2 ++ [c]) hS hxx (fun c' hc' => ht c' (List.mem_cons_of_mem _ hc'))
      rw [List.append_assoc]
      refine ⟨q2', e1, e2, e3, fun c' hc' => ?_, fun y hy0 hy1 hyv => ?_⟩
      · rcases List.mem_cons.1 hc' with e | e
        · rw [e, e5 c hc0 hc1 (by rw [hcc]; omega), hcc]; omega
        · exact e4 c' e
      · rw [e5 y hy0 hy1 (by rw [hkeep y hy0 hyv]; exact hyv), hkeep y hy0 hyv]
    · rw [if_neg hn]
      obtain ⟨q2', e1, e2, e3, e4, e5⟩ := in_fin N n b L x hN hx0 hx1 t d q1 q2 h hx (fun c' hc' => ht c' (List.mem_cons_of_mem _ hc'))
      refine ⟨q2', e1, e2, e3, fun c' hc' => ?_, e5⟩
      rcases List.mem_cons.1 hc' with e | e
      · rw [e, e5 c hc0 hc1 (by omega)]; omega
      · exact e4 c' e
theorem rd_ge {d : List Int} {v : Int} (hv : v ∈ d) : ∃ y, 0 ≤ y ∧ y < (d.length : Int) ∧ rd d y = v := by
  obtain ⟨i, hi, e⟩ := List.mem_iff_getElem.1 hv
  refine ⟨(i : Int), by omega, by omega, ?_⟩
  unfold rd
  rw [Int.toNat_natCast, List.getD_eq_getElem?_getD, List.getElem?_eq_getElem hi, Option.getD_some, e]
theorem bfs_fin (N : Int → List Int) (n : Nat) (b : Int) (hN : ∀ y, 0 ≤ y → y < (n : Int) → ∀ c ∈ N y, 0 ≤ c ∧ c < (n : Int)) : ∀ (m : Nat) (L : Int) (d q1 q2 : List Int), St N n b L (fun _ => False) d q1 q2 → neg d + (q1 ++ q2).length ≤ m →
    BI N n b (bfs N m d (q1 ++ q2)) ∧ (∀ y, 0 ≤ y → y < (n : Int) → 0 ≤ rd (bfs N m d (q1 ++ q2)) y → Done N (bfs N m d (q1 ++ q2)) y) ∧ (∀ y, 0 ≤ y → y < (n : Int) → 0 ≤ rd d y → rd (bfs N m d (q1 ++ q2)) y = rd d y) := by
  intro m
  induction m with
  | zero =>
    intro L d q1 q2 h hm
    have hq : q1 ++ q2 = [] := List.eq_nil_of_length_eq_zero (by omega)
    rw [hq]
    refine ⟨h.bi, fun y hy0 hy1 hyv => ?_, fun _ _ _ _ => rfl⟩
    rcases h.dn y hy0 hy1 hyv with e | e | e
    · exact e.elim
    · rw [hq] at e; simp at e
    · exact e
  | succ m ih =>
    have step : ∀ (L x : Int) (d q1 q2 : List Int), St N n b L (fun _ => False) d (x :: q1) q2 → neg d + ((x :: q1) ++ q2).length ≤ m + 1 → BI N n b (bfs N (m + 1) d ((x :: q1) ++ q2)) ∧ (∀ y, 0 ≤ y → y < (n : Int) → 0 ≤ rd (bfs N (m + 1) d ((x :: q1) ++ q2)) y → Done N (bfs N (m + 1) d ((x :: q1) ++ q2)) y) ∧ (∀ y, 0 ≤ y → y < (n : Int) → 0 ≤ rd d y → rd (bfs N (m + 1) d ((x :: q1) ++ q2)) y = rd d y) := by
      intro L x d q1 q2 h hm
      obtain ⟨hx0, hx1, hx⟩ := h.r1 x (List.mem_cons_self ..)
      have hl := h.bi.1
      have hL0 := h.L0
      have hS : St N n b L (fun y => y = x) d q1 q2 := by
        refine ⟨h.bi, h.L0, fun y hy => h.r1 y (List.mem_cons_of_mem _ hy), h.r2, h.top, fun y hy0 hy1 hyv => ?_⟩
        rcases h.dn y hy0 hy1 hyv with e | e | e
        · exact e.elim
        · rw [List.cons_append] at e
          rcases List.mem_cons.1 e with e | e
          · exact .inl e
          · exact .inr (.inl e)
        · exact .inr (.inr e)
      obtain ⟨q2', e1, e2, e3, e4, e5⟩ := in_fin N n b L x hN hx0 hx1 (N x) d q1 q2 hS hx (fun _ hc => hc)
      have hInv : Inv (L + 1) d (q1 ++ q2) := by
        refine ⟨fun v hv => ?_, by omega, fun y hy => ?_⟩
        · obtain ⟨y, y0, y1, ye⟩ := rd_ge hv
          have := h.top y y0 (by omega)
          omega
        · rcases List.mem_append.1 hy with hy | hy
          · have := h.r1 y (List.mem_cons_of_mem _ hy); omega
          · have := h.r2 y hy; omega
      have hok := bfsIn_ok x L (N x) d (q1 ++ q2) hInv hx0 (by omega) (by omega) (by omega) (fun c hc => by rw [hl]; exact hN x hx0 hx1 c hc)
      have hS' : St N n b L (fun _ => False) (bfsIn x (N x) d (q1 ++ q2)).1 q1 q2' := by
        refine ⟨e2.bi, e2.L0, e2.r1, e2.r2, e2.top, fun y hy0 hy1 hyv => ?_⟩
        rcases e2.dn y hy0 hy1 hyv with e | e | e
        · refine .inr (.inr ?_)
          rw [e]
          intro c hc
          obtain ⟨g0, g1⟩ := hN x hx0 hx1 c hc
          have := e2.top c g0 g1
          exact ⟨e4 c hc, by rw [e3]; exact this⟩
        · exact .inr (.inl e)
        · exact .inr (.inr e)
      simp only [List.cons_append, List.length_cons] at hm
      have := ih L _ q1 q2' hS' (by rw [← e1, hok.2.2]; omega)
      rw [← e1] at this
      refine ⟨this.1, this.2.1, fun y hy0 hy1 hyv => ?_⟩
      have e5' := e5 y hy0 hy1 hyv
      exact (this.2.2 y hy0 hy1 (by rw [e5']; exact hyv)).trans e5'
    intro L d q1 q2 h hm
    cases q1 with
    | cons x q1 => exact step L x d q1 q2 h hm
    | nil =>
      cases q2 with
      | nil =>
        refine ⟨h.bi, fun y hy0 hy1 hyv => ?_, fun _ _ _ _ => rfl⟩
        rcases h.dn y hy0 hy1 hyv with e | e | e
        · exact e.elim
        · simp at e
        · exact e
      | cons x q2 =>
        have hL0 := h.L0
        have := step (L + 1) x d q2 [] ⟨h.bi, by omega, h.r2, fun y hy => by simp at hy, fun y y0 y1 => by have := h.top y y0 y1; omega, fun y y0 y1 yv => by have := h.dn y y0 y1 yv; simpa using this⟩ (by simpa using hm)
        simpa using this
theorem from_fin {W H : Int} {C : List Int} {b : Int} (h : mOpen W H C b = true) :
    BI (mNear W C) C.length b (mFrom W C b) ∧ (∀ y, 0 ≤ y → y < (C.length : Int) → 0 ≤ rd (mFrom W C b) y → Done (mNear W C) (mFrom W C b) y) ∧ rd (mFrom W C b) b = 0 := by
  obtain ⟨hcell, _⟩ := mOpen_iff.1 h
  obtain ⟨hL, h0, h1⟩ := mCell_iff.1 hcell
  obtain ⟨_, hn, hl⟩ := start_ok (C := C) h0 h1
  have hrep : ∀ y, 0 ≤ y → y < (C.length : Int) → rd (List.replicate C.length (-1)) y = -1 := fun y y0 y1 => by
    unfold rd
    rw [List.getD_eq_getElem?_getD, List.getElem?_eq_getElem (by simp; omega)]; simp
  have hs : ∀ y, 0 ≤ y → y < (C.length : Int) → rd ((List.replicate C.length (-1)).set b.toNat 0) y = if y = b then 0 else -1 := fun y y0 y1 => by
    rw [rd_set h0 (by simpa using h1) y0, hrep y y0 y1]
  have hb : rd ((List.replicate C.length (-1)).set b.toNat 0) b = 0 := by rw [hs b h0 h1, if_pos rfl]
  have hS : St (mNear W C) C.length b 0 (fun _ => False) ((List.replicate C.length (-1)).set b.toNat 0) [b] [] := by
    refine ⟨⟨hl, fun y y0 y1 yv => ?_⟩, Int.le_refl _, fun y hy => ?_, fun y hy => by simp at hy, fun y y0 y1 => ?_, fun y y0 y1 yv => ?_⟩
    · rw [hs y y0 y1] at yv
      by_cases e : y = b
      · exact .inl e
      · rw [if_neg e] at yv; omega
    · rw [List.mem_singleton] at hy
      subst hy
      exact ⟨h0, h1, hb⟩
    · rw [hs y y0 y1]; split <;> omega
    · rw [hs y y0 y1] at yv
      by_cases e : y = b
      · exact .inr (.inl (by simp [e]))
      · rw [if_neg e] at yv; omega
  have := bfs_fin (mNear W C) C.length b (fun y y0 y1 c hc => by have := near_in (mCell_iff.2 ⟨hL, y0, y1⟩) hc; omega) C.length 0 _ [b] [] hS (by rw [List.append_nil]; omega)
  rw [List.append_nil] at this
  exact ⟨this.1, this.2.1, by rw [← hb]; exact this.2.2 b h0 h1 (by rw [hb]; exact Int.le_refl _)⟩
theorem near_sym {W H : Int} {C : List Int} {n c : Int} (h : mOpen W H C n = true) (hc : c ∈ mNear W C n) : n ∈ mNear W C c ∧ mOpen W H C c = true := by
  obtain ⟨hcell, hn2⟩ := mOpen_iff.1 h
  obtain ⟨hL, h0, h1⟩ := mCell_iff.1 hcell
  obtain ⟨hW, hH, hlen, _⟩ := mLand_iff.1 hL
  have h64 := mLand_len hL
  obtain ⟨c0, c1, c2⟩ := near_in hcell hc
  refine ⟨?_, mOpen_iff.2 ⟨mCell_iff.2 ⟨hL, c0, c1⟩, c2⟩⟩
  rw [near_mem] at hc ⊢
  rcases hc with ⟨a1, rfl, a3⟩ | ⟨a1, rfl, a3⟩ | ⟨a1, rfl, a3⟩ | ⟨a1, rfl, a3⟩
  · exact .inr (.inr (.inr ⟨by omega, by omega, hn2⟩))
  · refine .inr (.inr (.inl ⟨?_, by omega, hn2⟩))
    rw [Int.tmod_eq_emod_of_nonneg h0] at a1
    rw [Int.tmod_eq_emod_of_nonneg c0]
    rcases oct hW with rfl | rfl | rfl | rfl | rfl | rfl | rfl | rfl <;> omega
  · refine .inr (.inl ⟨?_, by omega, hn2⟩)
    rw [Int.tmod_eq_emod_of_nonneg h0] at a1
    rw [Int.tmod_eq_emod_of_nonneg c0]
    rcases oct hW with rfl | rfl | rfl | rfl | rfl | rfl | rfl | rfl <;> omega
  · exact .inl ⟨by omega, by omega, hn2⟩
/-- Beside a cell that was reached: all are reached, none is more than a day nearer, and (but at the base) one is a day nearer. -/
theorem near_days {W H : Int} {C : List Int} {b x : Int} (hb : mOpen W H C b = true) (hx : mOpen W H C x = true) (hr : 0 ≤ rd (mFrom W C b) x) :
    (∀ c ∈ mNear W C x, 0 ≤ rd (mFrom W C b) c ∧ rd (mFrom W C b) x - 1 ≤ rd (mFrom W C b) c) ∧ (x ≠ b → ∃ c ∈ mNear W C x, rd (mFrom W C b) c = rd (mFrom W C b) x - 1) := by
  obtain ⟨hbi, hdn, h0⟩ := from_fin hb
  obtain ⟨hcell, _⟩ := mOpen_iff.1 hx
  obtain ⟨hL, x0, x1⟩ := mCell_iff.1 hcell
  constructor
  · intro c hc
    obtain ⟨e0, e1⟩ := hdn x x0 x1 hr c hc
    obtain ⟨hs, hco⟩ := near_sym hx hc
    obtain ⟨hcc, _⟩ := mOpen_iff.1 hco
    obtain ⟨_, c0, c1⟩ := mCell_iff.1 hcc
    have := hdn c c0 c1 e0 x hs
    exact ⟨e0, by omega⟩
  · intro hne
    rcases hbi.2 x x0 x1 hr with e | ⟨p, p0, p1, p2, p3, p4⟩
    · exact absurd e hne
    · have hpc : mCell W H C p = true := mCell_iff.2 ⟨hL, p0, p1⟩
      have hpo : mOpen W H C p = true := by
        rcases hbi.2 p p0 p1 p3 with e | ⟨p', p0', p1', _, _, p4'⟩
        · rw [e]; exact hb
        · exact mOpen_iff.2 ⟨hpc, (near_in (mCell_iff.2 ⟨hL, p0', p1'⟩) p4').2.2⟩
      exact ⟨p, (near_sym hpo p4).1, p2⟩
theorem zero_base {W H : Int} {C : List Int} {b x : Int} (hb : mOpen W H C b = true) (x0 : 0 ≤ x) (x1 : x < (C.length : Int)) (hr : rd (mFrom W C b) x = 0) : x = b := by
  rcases (from_fin hb).1.2 x x0 x1 (by omega) with e | ⟨p, _, _, p2, p3, _⟩
  · exact e
  · omega
theorem implDays_ev (W H : Int) (C : List Int) (a b : Int) (hC : C.length ≤ 4611686018427387904) : Ev (fun k => impl_Days.f k W H C a b) (mDays W H C a b) := by
  unfold impl_Days.f
  refine Ev.bind (implOpen_ev W H C a hC) ?_
  unfold mDays
  cases ha : mOpen W H C a with
  | false => simp only [Bool.false_eq_true, if_false, Bool.false_and]; exact Ev.now _
  | true =>
    simp only [if_true, Bool.true_and]
    refine Ev.bind (implOpen_ev W H C b hC) ?_
    cases hb : mOpen W H C b with
    | false => simp only [Bool.false_eq_true, if_false]; exact Ev.now _
    | true =>
      simp only [if_true]
      refine Ev.bind (implDist_ev W H C a ha) ?_
      obtain ⟨_, h0, h1⟩ := mCell_iff.1 (mOpen_iff.1 hb).1
      simp only [if_pos h0, mFrom_len ha, if_pos h1]
      exact Ev.now _
theorem specDays_ev (W H : Int) (C : List Int) (a b : Int) (hC : C.length ≤ 4611686018427387904) : Ev (fun k => spec_Days.f k W H C a b) (mDays W H C a b) := by
  unfold spec_Days.f
  refine Ev.bind (specOpen_ev W H C a hC) ?_
  unfold mDays
  cases ha : mOpen W H C a with
  | false => simp only [Bool.false_eq_true, if_false, Bool.false_and]; exact Ev.now _
  | true =>
    simp only [if_true, Bool.true_and]
    refine Ev.bind (specOpen_ev W H C b hC) ?_
    cases hb : mOpen W H C b with
    | false => simp only [Bool.false_eq_true, if_false]; exact Ev.now _
    | true =>
      simp only [if_true]
      refine Ev.bind (specFrom_ev W H C a ha) ?_
      obtain ⟨_, h0, h1⟩ := mCell_iff.1 (mOpen_iff.1 hb).1
      simp only [if_pos h0, mFrom_len ha, if_pos h1]
      exact Ev.now _
/-! ### A shortest way -/
theorem bfs_top (N : Int → List Int) (n : Nat) (hN : ∀ x, 0 ≤ x → x < (n : Int) → ∀ c ∈ N x, 0 ≤ c ∧ c < (n : Int)) : ∀ (m : Nat) (b : Int) (d q : List Int), Inv b d q → d.length = n → ∀ v ∈ bfs N m d q, v ≤ b + m
  | 0, b, d, q, h, _, v, hv => by have := h.1 v hv; omega
  | m + 1, b, d, [], h, _, v, hv => by have := h.1 v hv; omega
  | m + 1, b, d, x :: t, hI, h, v, hv => by
    obtain ⟨j0, j1, j2⟩ := hI.2.2 x (List.mem_cons_self ..)
    have hI' : Inv (b + 1) d t := ⟨fun v hv => by have := hI.1 v hv; omega, by have := hI.2.1; omega, fun y hy => hI.2.2 y (List.mem_cons_of_mem _ hy)⟩
    have := bfsIn_ok x b (N x) d t hI' j0 j1 j2 (hI.1 _ (rd_mem j0 j1)) (fun c hc => by rw [h]; exact hN x j0 (by rw [← h]; exact j1) c hc)
    have := bfs_top N n hN m (b + 1) _ _ this.1 (by rw [this.2.1, h]) v hv
    omega
theorem from_top {W H : Int} {C : List Int} {b x : Int} (h : mOpen W H C b = true) (x0 : 0 ≤ x) (x1 : x < (C.length : Int)) : rd (mFrom W C b) x ≤ 64 := by
  obtain ⟨hcell, _⟩ := mOpen_iff.1 h
  obtain ⟨hL, h0, h1⟩ := mCell_iff.1 hcell
  obtain ⟨hI, hn, hl⟩ := start_ok (C := C) h0 h1
  have h64 := mLand_len hL
  have hmem : rd (mFrom W C b) x ∈ mFrom W C b := rd_mem x0 (by have := mFrom_len h; omega)
  have := bfs_top (mNear W C) C.length (fun x hx0 hx1 c hc => by have := near_in (mCell_iff.2 ⟨hL, hx0, hx1⟩) hc; omega) C.length 0 _ _ hI hl (rd (mFrom W C b) x) hmem
  omega
theorem reach_sym {W H : Int} {C : List Int} {a b : Int} (ha : mOpen W H C a = true) (hb : mOpen W H C b = true) (h : 0 ≤ rd (mFrom W C a) b) : 0 ≤ rd (mFrom W C b) a := by
  obtain ⟨abi, adn, a0⟩ := from_fin ha
  obtain ⟨bbi, bdn, b0⟩ := from_fin hb
  obtain ⟨hL, _, _⟩ := mCell_iff.1 (mOpen_iff.1 ha).1
  have key : ∀ (k : Nat) (y : Int), mOpen W H C y = true → rd (mFrom W C a) y = (k : Int) → 0 ≤ rd (mFrom W C b) y → 0 ≤ rd (mFrom W C b) a := by
    intro k
    induction k with
    | zero =>
      intro y hy hk hv
      obtain ⟨_, y0, y1⟩ := mCell_iff.1 (mOpen_iff.1 hy).1
      rw [zero_base ha y0 y1 (by omega)] at hv
      exact hv
    | succ k ih =>
      intro y hy hk hv
      obtain ⟨_, y0, y1⟩ := mCell_iff.1 (mOpen_iff.1 hy).1
      obtain ⟨n1, n2⟩ := near_days ha hy (by omega)
      obtain ⟨p, hp, hpe⟩ := n2 (fun e => by rw [e, a0] at hk; omega)
      exact ih p (near_sym hy hp).2 (by omega) (bdn y y0 y1 hv p hp).1
  obtain ⟨k, hk⟩ := Int.eq_ofNat_of_zero_le h
  exact key k b hb hk (by omega)
def nextOf (W : Int) (C D : List Int) (x : Int) : Int := ((mNear W C x).find? (fun c => decide (rd D c = rd D x - 1))).getD x
def way (W : Int) (C D : List Int) : Nat → Int → List Int
  | 0, _ => []
  | n + 1, x => nextOf W C D x :: way W C D n (nextOf W C D x)
def mWayTo (W H : Int) (C : List Int) (a b : Int) : List Int := if mDays W H C a b < 0 then [] else a :: way W C (mFrom W C b) (rd (mFrom W C b) a).toNat a
theorem next_ok {W H : Int} {C : List Int} {b x : Int} (hb : mOpen W H C b = true) (hx : mOpen W H C x = true) {n : Nat} (hn : rd (mFrom W C b) x = (n : Int) + 1) :
    nextOf W C (mFrom W C b) x ∈ mNear W C x ∧ rd (mFrom W C b) (nextOf W C (mFrom W C b) x) = (n : Int) ∧ mOpen W H C (nextOf W C (mFrom W C b) x) = true ∧ (mNear W C x).find? (fun c => decide (rd (mFrom W C b) c = rd (mFrom W C b) x - 1)) = some (nextOf W C (mFrom W C b) x) := by
  obtain ⟨n1, n2⟩ := near_days hb hx (by omega)
  obtain ⟨p, hp, hpe⟩ := n2 (fun e => by rw [e, (from_fin hb).2.2] at hn; omega)
  have hf : (mNear W C x).find? (fun c => decide (rd (mFrom W C b) c = rd (mFrom W C b) x - 1)) = some (nextOf W C (mFrom W C b) x) := by
    unfold nextOf
    cases h : (mNear W C x).find? (fun c => decide (rd (mFrom W C b) c = rd (mFrom W C b) x - 1)) with
    | none =>
      have := List.find?_eq_none.1 h p hp
      simp [hpe] at this
    | some c => rfl
  have hm := List.mem_of_find?_eq_some hf
  have hq := List.find?_some hf
  simp only [decide_eq_true_eq] at hq
  exact ⟨hm, by omega, (near_sym hx hm).2, hf⟩
theorem mWay_days {W H : Int} {C : List Int} {a b : Int} (h : ¬ mDays W H C a b < 0) : mOpen W H C a = true ∧ mOpen W H C b = true ∧ 0 ≤ rd (mFrom W C b) a := by
  unfold mDays at h
  by_cases c : (mOpen W H C a && mOpen W H C b) = true
  · rw [if_pos c] at h
    rw [Bool.and_eq_true] at c
    exact ⟨c.1, c.2, reach_sym c.1 c.2 (by omega)⟩
  · rw [if_neg c] at h
    omega
theorem specWay_in (W H : Int) (C : List Int) (b x : Int) (out ns : List Int) (R : List Int) (hb : mOpen W H C b = true) (hx : mOpen W H C x = true) (hns : ns = mNear W C x) (ho : out.length ≤ 1000) (hr : 0 ≤ rd (mFrom W C b) x)
    (hR : Ev (fun k => spec_WayTo.l0 k (nextOf W C (mFrom W C b) x) b ((out ++ [x]) ++ [nextOf W C (mFrom W C b) x]) (mFrom W C b) W H C) R) : ∀ (n : Nat), n ≤ ns.length → Ev (fun k => spec_WayTo.l1 k (((ns.drop n).find? (fun c => decide (rd (mFrom W C b) c = rd (mFrom W C b) x - 1))).getD x) b (out ++ [x]) (mFrom W C b) ns ((n : Int) - 1) W H C) R
  | 0, _ => by
    refine Ev.step (fun k => ?_) hR
    have e : ((ns.drop 0).find? (fun c => decide (rd (mFrom W C b) c = rd (mFrom W C b) x - 1))).getD x = nextOf W C (mFrom W C b) x := by rw [List.drop_zero, hns]; rfl
    simp only [spec_WayTo.l1, e]
    rw [if_neg (by omega), if_pos (by simp; omega)]
  | n + 1, hn => by
    have ih := specWay_in W H C b x out ns R hb hx hns ho hr hR n (by omega)
    obtain ⟨_, x0, x1⟩ := mCell_iff.1 (mOpen_iff.1 hx).1
    have hl4 : ns.length ≤ 4 := by rw [hns]; exact specNear_len W C x
    have hg : ns[n]? = some ns[n] := List.getElem?_eq_getElem (by omega)
    have hrc : rd ns (n : Int) = ns[n] := getD_of 0 hg
    have hc : ns[n] ∈ mNear W C x := by rw [← hns]; exact List.getElem_mem _
    obtain ⟨c0, c1, _⟩ := near_in (mOpen_iff.1 hx).1 hc
    have hD := mFrom_len hb
    have ht := from_top hb x0 x1
    have hlast : wrap64 (((out ++ [x]).length : Int) - 1) = (out.length : Int) := by
      rw [wrap_id (by simp only [List.length_append, List.length_singleton]; omega) (by simp only [List.length_append, List.length_singleton]; omega)]; simp
    have hrl : rd (out ++ [x]) (out.length : Int) = x := getD_of 0 (by simp)
    have hw : wrap64 (rd (mFrom W C b) x - 1) = rd (mFrom W C b) x - 1 := wrap_id (by omega) (by omega)
    have hwn : wrap64 ((n : Int) - 1) = (n : Int) - 1 := wrap_id (by omega) (by omega)
    rw [List.drop_eq_getElem_cons (show n < ns.length by omega)] at ih
    refine Ev.step (fun k => ?_) ih
    simp only [spec_WayTo.l1, show (((n + 1 : Nat) : Int) - 1) = (n : Int) from by omega, hrc, hlast, hrl, hw, hwn]
    rw [if_pos (by omega), if_pos (by omega), if_pos (by omega), if_pos c0, if_pos (by omega), if_pos (by omega), if_pos (by simp; omega), if_pos x0, if_pos (by omega)]
    by_cases hq : rd (mFrom W C b) ns[n] = rd (mFrom W C b) x - 1
    · rw [if_pos hq, List.find?_cons_of_pos (by simpa using hq)]; rfl
    · rw [if_neg hq, List.find?_cons_of_neg (by simpa using hq)]
theorem specWay_down (W H : Int) (C : List Int) (b : Int) (hb : mOpen W H C b = true) : ∀ (n : Nat) (x : Int) (out : List Int), mOpen W H C x = true → rd (mFrom W C b) x = (n : Int) → out.length + n ≤ 900 → Ev (fun k => spec_WayTo.l0 k x b (out ++ [x]) (mFrom W C b) W H C) ((out ++ [x]) ++ way W C (mFrom W C b) n x)
  | 0, x, out, hx, hn, ho => by
    obtain ⟨_, x0, x1⟩ := mCell_iff.1 (mOpen_iff.1 hx).1
    have e := zero_base hb x0 x1 hn
    refine Ev.step (f := fun _ => some (out ++ [x])) (fun k => ?_) (by simp only [way, List.append_nil]; exact Ev.now _)
    simp only [spec_WayTo.l0]
    rw [if_pos e]
  | n + 1, x, out, hx, hn, ho => by
    have hne : x ≠ b := fun e => by rw [e, (from_fin hb).2.2] at hn; omega
    obtain ⟨k1, k2, k3, k4⟩ := next_ok hb hx (n := n) (by omega)
    have ih := specWay_down W H C b hb n (nextOf W C (mFrom W C b) x) (out ++ [x]) k3 k2 (by simp; omega)
    have hin := specWay_in W H C b x out (mNear W C x) _ hb hx rfl (by omega) (by omega) ih (mNear W C x).length (Nat.le_refl _)
    have hl4 := specNear_len W C x
    refine Ev.step (f := fun k => (spec_l4Near.f k W H C x).bind fun t343 => spec_WayTo.l1 k x b (out ++ [x]) (mFrom W C b) t343 (wrap64 ((t343.length : Int) - 1)) W H C) (fun k => ?_) ?_
    · simp only [spec_WayTo.l0]
      rw [if_neg hne]
    · refine Ev.bind (specNear_ev W H C x (mOpen_iff.1 hx).1) ?_
      rw [List.drop_length] at hin
      simp only [wrap_id (n := ((mNear W C x).length : Int) - 1) (by omega) (by omega)]
      have e : (out ++ [x]) ++ way W C (mFrom W C b) (n + 1) x = ((out ++ [x]) ++ [nextOf W C (mFrom W C b) x]) ++ way W C (mFrom W C b) n (nextOf W C (mFrom W C b) x) := by simp [way]
      rw [e]
      exact hin
theorem specWayTo_ev (W H : Int) (C : List Int) (a b : Int) (hC : C.length ≤ 4611686018427387904) : Ev (fun k => spec_WayTo.f k W H C a b) (mWayTo W H C a b) := by
  unfold spec_WayTo.f mWayTo
  simp only [Option.bind_some]
  refine Ev.bind (specDays_ev W H C a b hC) ?_
  by_cases h : mDays W H C a b < 0
  · simp only [if_pos h]; exact Ev.now _
  · simp only [if_neg h]
    obtain ⟨ha, hb, hr⟩ := mWay_days h
    refine Ev.bind (specFrom_ev W H C b hb) ?_
    obtain ⟨_, a0, a1⟩ := mCell_iff.1 (mOpen_iff.1 ha).1
    have ht := from_top hb a0 a1
    have := specWay_down W H C b hb (rd (mFrom W C b) a).toNat a [] ha (by omega) (by simp; omega)
    simp only [List.length_nil, show (0 : Nat) < 17592186044416 from by omega, if_true]
    exact this
theorem implPlace_at (l : List Int) (n : Int) (hl : l.length ≤ 4611686018427387904) : ∀ k, l.length < k → impl_placeOf.f k l n = some (place n l) :=
  at_loop0 (fun k _ i => impl_placeOf.l0 k n l (l.length : Int) i) l (stepPlace n) (fun _ => -1) hl ()
    (fun k s => by simp only [impl_placeOf.l0]; rw [if_neg (by omega)])
    (fun k s i x hx hw => by
      have hi := lt_of_get hx
      have hr : rd l (i : Int) = x := getD_of 0 hx
      simp only [impl_placeOf.l0, hr, hw]; rw [if_pos (by omega), if_pos (by omega), if_pos (by omega)]
      simp only [stepPlace]; split <;> rfl)
theorem implHas_at (l : List Int) (n : Int) (hl : l.length ≤ 4611686018427387904) : ∀ k, l.length < k → impl_has.f k l n = some (decide (n ∈ l)) := fun k hk => by
  simp only [impl_has.f, implPlace_at l n hl k hk, Option.bind_some, place_has]
theorem specHas_at (l : List Int) (n : Int) (hl : l.length ≤ 4611686018427387904) : ∀ k, l.length < k → spec_l14Has.f k l n = some (decide (n ∈ l)) := by
  rw [← run_has n l 0]
  exact at_loop0 (fun k _ i => spec_l14Has.l0 k l n i) l (stepHas n) (fun _ => false) hl ()
    (fun k s => by simp only [spec_l14Has.l0]; rw [if_neg (by omega)])
    (fun k s i x hx hw => by
      have hi := lt_of_get hx
      have hr : rd l (i : Int) = x := getD_of 0 hx
      simp only [spec_l14Has.l0, hr, hw]; rw [if_pos (by omega), if_pos (by omega)]
      simp only [stepHas]; split <;> rfl)
/-! What a draw gives: that it ends, and the range of what it tells. -/
def Gets {ρ : Type} (P : ρ → Prop) (g : Nat → Option ρ) : Prop := ∃ r, P r ∧ Ev g r
theorem Gets.bind {α β : Type} {P : α → Prop} {Q : β → Prop} {f : Nat → Option α} {g : Nat → α → Option β} (hf : Gets P f) (hg : ∀ r, P r → Gets Q (fun k => g k r)) : Gets Q (fun k => (f k).bind (g k)) := by
  obtain ⟨r, hr, he⟩ := hf
  obtain ⟨s, hs, he'⟩ := hg r hr
  exact ⟨s, hs, Ev.bind he he'⟩
theorem Gets.ev {α β : Type} {P : α → Prop} {f : Nat → Option α} {g : Nat → α → Option β} {b : β} (hf : Gets P f) (hg : ∀ r, P r → Ev (fun k => g k r) b) : Ev (fun k => (f k).bind (g k)) b := by
  obtain ⟨r, hr, he⟩ := hf
  exact Ev.bind he (hg r hr)
theorem Gets.now {ρ : Type} {P : ρ → Prop} {r : ρ} (h : P r) : Gets P (fun _ => some r) := ⟨r, h, Ev.now _⟩
theorem Gets.step {ρ : Type} {P : ρ → Prop} {f g : Nat → Option ρ} (h : ∀ k, g (k + 1) = f k) (hf : Gets P f) : Gets P g := by
  obtain ⟨r, hr, he⟩ := hf
  exact ⟨r, hr, Ev.step h he⟩
theorem Gets.congr {ρ : Type} {P : ρ → Prop} {f g : Nat → Option ρ} (h : ∀ k, g k = f k) (hf : Gets P f) : Gets P g := by
  have e : g = f := funext h
  rw [e]; exact hf
theorem Gets.mono {ρ : Type} {P Q : ρ → Prop} {f : Nat → Option ρ} (h : ∀ r, P r → Q r) (hf : Gets P f) : Gets Q f := by
  obtain ⟨r, hr, he⟩ := hf
  exact ⟨r, h r hr, he⟩
def OkC (b : List Int) (i : Int) : Prop := b.length ≤ 1048576 ∧ 0 ≤ i ∧ i ≤ 1048576
theorem and255 (x : Int) : 0 ≤ Go.bits .and .i64 x 255 ∧ Go.bits .and .i64 x 255 ≤ 255 := by
  have h : ((BitVec.ofInt 64 x) &&& (BitVec.ofInt 64 255)).toNat ≤ 255 := by
    rw [BitVec.toNat_and]
    exact Nat.le_trans Nat.and_le_right (by decide)
  have e : Go.bits .and .i64 x 255 = wrap64 (((BitVec.ofInt 64 x) &&& (BitVec.ofInt 64 255)).toNat : Int) := by simp only [Go.bits, i64_w]; rfl
  rw [e, wrap_id (by omega) (by omega)]
  omega
theorem byte_ok (b : List Int) (i h : Int) (hc : OkC b i) : ∃ v i' h', spec_l1Byte.f b i h = some (v, i', h') ∧ 0 ≤ v ∧ v ≤ 255 ∧ OkC b i' := by
  obtain ⟨h1, h2, h3⟩ := hc
  unfold spec_l1Byte.f
  by_cases c : i < (b.length : Int)
  · rw [if_pos c, if_pos h2, wrap_id (n := i + 1) (by omega) (by omega)]
    exact ⟨_, _, _, rfl, (and255 _).1, (and255 _).2, h1, by omega, by omega⟩
  · rw [if_neg c]
    exact ⟨_, _, _, rfl, (and255 _).1, (and255 _).2, h1, h2, h3⟩
theorem tmod_range (a n : Int) (ha : 0 ≤ a) (hn : 0 < n) : 0 ≤ Int.tmod a n ∧ Int.tmod a n < n := by
  rw [Int.tmod_eq_emod_of_nonneg ha]
  exact ⟨Int.emod_nonneg _ (by omega), Int.emod_lt_of_pos _ hn⟩
theorem below_ok (b : List Int) (i h n : Int) (hc : OkC b i) : ∃ v i' h', spec_l1Below.f b i h n = some (v, i', h') ∧ 0 ≤ v ∧ (0 < n → v < n) ∧ OkC b i' := by
  unfold spec_l1Below.f
  by_cases c : n ≤ 0
  · rw [if_pos c]
    exact ⟨_, _, _, rfl, by omega, by omega, hc⟩
  · rw [if_neg c]
    by_cases c2 : n ≤ 256
    · obtain ⟨v, i', h', e, h0, h1, hc'⟩ := byte_ok b i h hc
      rw [if_pos c2, e]
      simp only [Option.bind_some]
      rw [if_neg (by omega)]
      have := tmod_range v n h0 (by omega)
      exact ⟨_, _, _, rfl, this.1, fun _ => this.2, hc'⟩
    · obtain ⟨v1, i1, h1, e1, a1, b1, hc1⟩ := byte_ok b i h hc
      obtain ⟨v2, i2, h2, e2, a2, b2, hc2⟩ := byte_ok b i1 h1 hc1
      obtain ⟨v3, i3, h3, e3, a3, b3, hc3⟩ := byte_ok b i2 h2 hc2
      rw [if_neg c2, e1]
      simp only [Option.bind_some, e2, e3]
      rw [if_neg (by omega), wrap_id (n := v1 * 65536) (by omega) (by omega), wrap_id (n := v2 * 256) (by omega) (by omega), wrap_id (n := v1 * 65536 + v2 * 256) (by omega) (by omega), wrap_id (by omega) (by omega)]
      have := tmod_range (v1 * 65536 + v2 * 256 + v3) n (by omega) (by omega)
      exact ⟨_, _, _, rfl, this.1, fun _ => this.2, hc3⟩
theorem once_ok (b : List Int) (i h n : Int) (hc : OkC b i) : ∃ v i' h', spec_l1Once.f b i h n = some (v, i', h') ∧ OkC b i' := by
  obtain ⟨v, i', h', e, _, _, hc'⟩ := below_ok b i h n hc
  unfold spec_l1Once.f
  rw [e]
  exact ⟨_, _, _, rfl, hc'⟩
theorem int_ok (b : List Int) (i h : Int) (l : List Int) (hl : 0 < l.length) (hc : OkC b i) : ∃ v i' h', spec_l1Int.f b i h l = some (v, i', h') ∧ v ∈ l ∧ OkC b i' := by
  obtain ⟨v, i', h', e, h0, h1, hc'⟩ := below_ok b i h (l.length : Int) hc
  have h1 := h1 (by omega)
  unfold spec_l1Int.f
  rw [e]
  simp only [Option.bind_some]
  rw [if_pos h0, if_pos h1]
  refine ⟨_, _, _, rfl, ?_, hc'⟩
  have : v.toNat < l.length := by omega
  simp only [rd, List.getD_eq_getElem?_getD, List.getElem?_eq_getElem this, Option.getD_some]
  exact List.getElem_mem _
theorem new_down (b : List Int) (hb : b.length ≤ 1048576) : ∀ (n i : Nat) (h : Int), i + n = b.length → ∃ h', Ev (fun k => spec_l1New.l0 k b h (i : Int)) (b, 0, h')
  | 0, i, h, hi => ⟨h, Ev.step (f := fun _ => some (b, 0, h)) (fun k => by simp only [spec_l1New.l0]; rw [if_neg (by omega)]) (Ev.now _)⟩
  | n + 1, i, h, hi => by
    by_cases c : (i : Int) < 4000
    · obtain ⟨h', ih⟩ := new_down b hb n (i + 1) (Go.bits .and .i64 (wrap64 ((wrap64 ((wrap64 (h * 137)) + (wrap64 (rd b (i : Int))))) + 11)) 1073741823) (by omega)
      refine ⟨h', Ev.step (f := fun k => spec_l1New.l0 k b (Go.bits .and .i64 (wrap64 ((wrap64 ((wrap64 (h * 137)) + (wrap64 (rd b (i : Int))))) + 11)) 1073741823) ((i + 1 : Nat) : Int)) (fun k => ?_) ih⟩
      simp only [spec_l1New.l0, wrapi i (by omega)]
      rw [if_pos (by omega), if_pos c, if_pos (by omega), Int.natCast_add, Int.natCast_one]
    · refine ⟨h, Ev.step (f := fun _ => some (b, 0, h)) (fun k => ?_) (Ev.now _)⟩
      simp only [spec_l1New.l0]
      rw [if_pos (by omega), if_neg c]
theorem new_ok (b : List Int) (hb : b.length ≤ 1048576) : Gets (fun r => r.1 = b ∧ OkC r.1 r.2.1) (fun k => spec_l1New.f k b) := by
  obtain ⟨h', he⟩ := new_down b hb b.length 0 (wrap64 (193017 + (b.length : Int))) (by omega)
  exact ⟨(b, 0, h'), ⟨rfl, hb, Int.le_refl 0, show (0 : Int) ≤ 1048576 by decide⟩, he⟩
/-! ### Draws: rules, pasts, lands, parties -/
theorem land_down (b : List Int) (W H : Int) (N : Nat) (hN : N ≤ 64) (hw : wrap64 (W * H) = (N : Int)) (h1 : 1 ≤ N) : ∀ (n : Nat) (xs : List Int) (i h : Int), xs.length + n = N → (∀ x ∈ xs, 0 ≤ x ∧ x ≤ 2) → OkC b i →
    Gets (fun r => (r.1 = W ∧ r.2.1 = H ∧ r.2.2.1.length = N ∧ (∀ x ∈ r.2.2.1, 0 ≤ x ∧ x ≤ 2) ∧ rd r.2.2.1 0 = 0) ∧ OkC b r.2.2.2.1) (fun k => spec_l4Draw.l0 k (xs.length : Int) b i h W H xs)
  | 0, xs, i, h, hn, hx, hc => by
    refine Gets.step (f := fun _ => some (W, H, xs.set 0 0, i, h)) (fun k => ?_) (Gets.now ⟨⟨rfl, rfl, by simpa using hn, fun x hxm => ?_, ?_⟩, hc⟩)
    · simp only [spec_l4Draw.l0, hw]
      rw [if_neg (by omega), if_pos (by omega)]; rfl
    · rcases List.mem_or_eq_of_mem_set hxm with e | e
      · exact hx x e
      · omega
    · show rd (xs.set 0 0) 0 = 0
      have hpos : 0 < xs.length := by omega
      simp [rd, List.getD_eq_getElem?_getD, List.getElem?_set, hpos]
  | n + 1, xs, i, h, hn, hx, hc => by
    obtain ⟨v, i1, h1', e1, hv, hc1⟩ := int_ok b i h [0, 0, 0, 0, 1, 2] (by decide) hc
    have hv' : 0 ≤ v ∧ v ≤ 2 := by
      simp at hv
      omega
    have ih := land_down b W H N hN hw h1 n (xs ++ [v]) i1 h1' (by simp; omega) (fun x hxm => by
      rcases List.mem_append.1 hxm with e | e
      · exact hx x e
      · rw [List.mem_singleton] at e; subst e; exact hv') hc1
    rw [List.length_append, List.length_singleton, show ((xs.length + 1 : Nat) : Int) = (xs.length : Int) + 1 from by omega] at ih
    refine Gets.step (fun k => ?_) ih
    simp only [spec_l4Draw.l0, hw, e1, Option.bind_some, wrapi xs.length (by omega)]
    rw [if_pos (by omega), if_pos (by omega)]
def Drawn4 (W H : Int) (C : List Int) : Prop := mLand W H C = true ∧ (2 ≤ W ∧ W ≤ 6) ∧ (2 ≤ H ∧ H ≤ 5) ∧ rd C 0 = 0 ∧ 1 ≤ C.length
theorem land4_ok (b : List Int) (i h : Int) (hc : OkC b i) : Gets (fun r => Drawn4 r.1 r.2.1 r.2.2.1 ∧ OkC b r.2.2.2.1) (fun k => spec_l4Draw.f k b i h) := by
  obtain ⟨v, i1, h1, e1, a1, b1, hc1⟩ := below_ok b i h 5 hc
  have b1 := b1 (by omega)
  obtain ⟨u, i2, h2, e2, a2, b2, hc2⟩ := below_ok b i1 h1 4 hc1
  have b2 := b2 (by omega)
  have hm := mul64 (W := 2 + v) (H := 2 + u) (by omega) (by omega)
  obtain ⟨N, hN⟩ := Int.eq_ofNat_of_zero_le (show 0 ≤ (2 + v) * (2 + u) from by omega)
  have := land_down b (2 + v) (2 + u) N (by omega) (by rw [wrap_id (by omega) (by omega), hN]) (by omega) N [] i2 h2 (by simp) (fun x hx => by simp at hx) hc2
  refine Gets.congr (fun k => ?_) (Gets.mono (fun r hr => ?_) this)
  · simp only [spec_l4Draw.f, e1, Option.bind_some, e2, wrap_id (n := 2 + v) (by omega) (by omega), wrap_id (n := 2 + u) (by omega) (by omega)]
    rfl
  · obtain ⟨⟨r1, r2, r3, r4, r5⟩, r6⟩ := hr
    refine ⟨⟨mLand_iff.2 ⟨by omega, by omega, ?_, r4⟩, by omega, by omega, r5, by omega⟩, r6⟩
    rw [r1, r2, r3, hN]
theorem raw4_ok (b : List Int) (i h : Int) (hc : OkC b i) : ∃ v i' h', spec_l4Raw.f b i h = some (v, i', h') ∧ OkC b i' := by
  obtain ⟨v, i1, h1, e1, _, hc1⟩ := int_ok b i h [-1, 0, 8, 9, 64, 9223372036854775807, -9223372036854775808] (by decide) hc
  exact ⟨v, i1, h1, by simp only [spec_l4Raw.f, e1, Option.bind_some], hc1⟩
theorem any4_ok (b : List Int) (i h : Int) (hc : OkC b i) : Gets (fun r => r.2.2.1.length ≤ 64 ∧ OkC b r.2.2.2.1) (fun k => spec_l4Any.f k b i h) := by
  unfold spec_l4Any.f
  refine Gets.bind (land4_ok b i h hc) ?_
  rintro ⟨W, H, C, i1, h1⟩ ⟨hd, hc1⟩
  simp only at hd hc1 ⊢
  have hlen := mLand_len hd.1
  have hpos : 1 ≤ C.length := hd.2.2.2.2
  have f0 : ∀ (W H : Int) (C : List Int) (i h : Int), C.length ≤ 64 → OkC b i → Gets (fun r => r.2.2.1.length ≤ 64 ∧ OkC b r.2.2.2.1) (fun k => spec_l4Any.j0 k b i h W H C) := fun W H C i h hl hc => Gets.step (f := fun _ => some (W, H, C, i, h)) (fun k => rfl) (Gets.now ⟨hl, hc⟩)
  obtain ⟨v, i2, h2, e2, _, _, hc2⟩ := below_ok b i1 h1 14 hc1
  simp only [e2, Option.bind_some]
  by_cases c0 : v = 0
  · obtain ⟨u, i3, h3, e3, hc3⟩ := raw4_ok b i2 h2 hc2
    simp only [if_pos c0, e3, Option.bind_some]
    exact f0 _ _ _ _ _ hlen hc3
  · simp only [if_neg c0]
    by_cases c1 : v = 1
    · obtain ⟨u, i3, h3, e3, hc3⟩ := raw4_ok b i2 h2 hc2
      simp only [if_pos c1, e3, Option.bind_some]
      exact f0 _ _ _ _ _ hlen hc3
    · simp only [if_neg c1]
      by_cases c2 : v = 2
      · obtain ⟨u, i3, h3, e3, _, hc3⟩ := int_ok b i2 h2 [-1, 2, 3] (by decide) hc2
        simp only [if_pos c2, e3, Option.bind_some, if_pos (show (0 : Int) < (C.length : Int) from by omega)]
        exact f0 _ _ _ _ _ (by rw [List.length_set]; exact hlen) hc3
      · simp only [if_neg c2]
        by_cases c3 : v = 3
        · simp only [if_pos c3, if_pos (show (1 : Int) ≤ (C.length : Int) from by omega)]
          exact f0 _ _ _ _ _ (by rw [List.length_drop]; omega) hc2
        · simp only [if_neg c3]
          exact f0 _ _ _ _ _ hlen hc2
theorem reach_down (days : Int) (d : List Int) (hd : d.length ≤ 1048576) : ∀ (t e out : List Int), d = e ++ t → out.length ≤ e.length → (∀ x ∈ out, 0 ≤ x ∧ x < (d.length : Int)) →
    Gets (fun r => out.length ≤ r.length ∧ r.length ≤ d.length ∧ (∀ x ∈ r, 0 ≤ x ∧ x < (d.length : Int)) ∧ ((∃ v ∈ t, 0 ≤ v ∧ v ≤ days) → 0 < r.length)) (fun k => spec_Reach.l0 k days out d (e.length : Int))
  | [], e, out, h, ho, hx => by
    have hlen : d.length = e.length := by rw [h]; simp
    refine Gets.step (f := fun _ => some out) (fun k => ?_) (Gets.now ⟨Nat.le_refl _, by omega, hx, fun ⟨v, hv, _⟩ => by simp at hv⟩)
    simp only [spec_Reach.l0]
    rw [if_neg (by omega)]
  | v :: t, e, out, h, ho, hx => by
    have hlen : d.length = e.length + (t.length + 1) := by rw [h]; simp
    have hr : rd d (e.length : Int) = v := getD_of 0 (by rw [h]; simp)
    have hsn : d = (e ++ [v]) ++ t := by rw [h]; simp
    have h1 : (((e ++ [v]).length : Nat) : Int) = (e.length : Int) + 1 := by simp
    by_cases c : 0 ≤ v ∧ v ≤ days
    · have ih := reach_down days d hd t (e ++ [v]) (out ++ [(e.length : Int)]) hsn (by simp; omega) (fun x hxm => by
        rcases List.mem_append.1 hxm with q | q
        · exact hx x q
        · rw [List.mem_singleton] at q; omega)
      rw [h1] at ih
      refine Gets.step (fun k => ?_) (Gets.mono (fun r hr' => ?_) ih)
      · simp only [spec_Reach.l0, hr, wrapi e.length (by omega)]
        rw [if_pos (by omega), if_pos (by omega), if_pos (by omega), if_pos (by omega), if_pos (by omega)]
      · rw [List.length_append, List.length_singleton] at hr'
        exact ⟨by omega, hr'.2.1, hr'.2.2.1, fun _ => by omega⟩
    · have ih := reach_down days d hd t (e ++ [v]) out hsn (by simp; omega) hx
      rw [h1] at ih
      refine Gets.step (fun k => ?_) (Gets.mono (fun r hr' => ?_) ih)
      · simp only [spec_Reach.l0, hr, wrapi e.length (by omega)]
        rw [if_pos (by omega), if_pos (by omega)]
        by_cases c1 : v ≥ 0
        · rw [if_pos c1, if_neg (by omega)]
        · rw [if_neg c1]
      · refine ⟨hr'.1, hr'.2.1, hr'.2.2.1, fun ⟨u, hu, hu'⟩ => ?_⟩
        rcases List.mem_cons.1 hu with q | q
        · subst q; exact absurd hu' c
        · exact hr'.2.2.2 ⟨u, q, hu'⟩
theorem from_base {W H : Int} {C : List Int} {a : Int} (h : mOpen W H C a = true) : 0 ∈ mFrom W C a := by
  obtain ⟨_, _, h0⟩ := from_fin h
  obtain ⟨_, a0, a1⟩ := mCell_iff.1 (mOpen_iff.1 h).1
  have := rd_mem (d := mFrom W C a) a0 (by rw [mFrom_len h]; exact a1)
  rw [h0] at this
  exact this
theorem reach_ok (W H : Int) (C : List Int) (a days : Int) (hC : C.length ≤ 64) (hd : 0 ≤ days) : Gets (fun r => r.length ≤ 64 ∧ (∀ x ∈ r, 0 ≤ x ∧ x < (C.length : Int)) ∧ (mOpen W H C a = true → 0 < r.length)) (fun k => spec_Reach.f k W H C a days) := by
  unfold spec_Reach.f
  simp only [Option.bind_some]
  refine Gets.bind (P := fun t => t = mOpen W H C a) ⟨_, rfl, specOpen_ev W H C a (by omega)⟩ ?_
  rintro t rfl
  cases ho : mOpen W H C a with
  | false => simp only [Bool.false_eq_true, if_false]; exact Gets.now ⟨by simp, by simp, by simp⟩
  | true =>
    simp only [if_true]
    refine Gets.bind (P := fun d => d = mFrom W C a) ⟨_, rfl, specFrom_ev W H C a ho⟩ ?_
    rintro d rfl
    have hl := mFrom_len ho
    have := reach_down days (mFrom W C a) (by omega) (mFrom W C a) [] [] rfl (by simp) (by simp)
    rw [hl] at this
    exact Gets.mono (fun r hr => ⟨by omega, hr.2.2.1, fun _ => hr.2.2.2 ⟨0, from_base ho, Int.le_refl _, hd⟩⟩) this
theorem getD_in {l : List Int} {i : Int} (h0 : 0 ≤ i) (h1 : i < (l.length : Int)) : rd l i ∈ l := rd_mem h0 h1
theorem up_loop {ρ : Type} (L : Nat → Int → Option ρ) (n : Nat) (r : ρ) (hend : Ev (fun k => L k (n : Int)) r) (hstep : ∀ i : Nat, i < n → Ev (fun k => L k ((i : Int) + 1)) r → Ev (fun k => L k (i : Int)) r) : Ev (fun k => L k 0) r := by
  have key : ∀ (d i : Nat), i + d = n → Ev (fun k => L k (i : Int)) r := by
    intro d
    induction d with
    | zero =>
      intro i hi
      obtain rfl : i = n := by omega
      exact hend
    | succ d ih =>
      intro i hi
      refine hstep i (by omega) ?_
      have := ih (i + 1) (by omega)
      rw [show ((i + 1 : Nat) : Int) = (i : Int) + 1 from by omega] at this
      exact this
  exact key n 0 (by omega)
theorem contains_at (l : List Int) (n : Int) (hl : l.length ≤ 4611686018427387904) : ∀ k, l.length < k → laws_contains.f k l n = some (decide (n ∈ l)) := by
  rw [← run_has n l 0]
  exact at_loop0 (fun k _ i => laws_contains.l0 k l n i) l (stepHas n) (fun _ => false) hl ()
    (fun k s => by simp only [laws_contains.l0]; rw [if_neg (by omega)])
    (fun k s i x hx hw => by
      have hi := lt_of_get hx
      have hr : rd l (i : Int) = x := getD_of 0 hx
      simp only [laws_contains.l0, hr, hw]; rw [if_pos (by omega), if_pos (by omega)]
      simp only [stepHas]; split <;> rfl)
/-! ### Where the party can be -/
def InReach (d : List Int) (days x : Int) : Prop := 0 ≤ x ∧ x < (d.length : Int) ∧ 0 ≤ rd d x ∧ rd d x ≤ days
theorem reach_loop (L : Nat → List Int → Int → Option (List Int)) (days : Int) (d : List Int) (hd : d.length ≤ 1048576) (hend : ∀ k out, L (k + 1) out (d.length : Int) = some out)
    (hstep : ∀ (k : Nat) (out : List Int) (i : Nat), i < d.length → out.length ≤ i → wrap64 ((i : Int) + 1) = (i : Int) + 1 → L (k + 1) out (i : Int) = if 0 ≤ rd d (i : Int) ∧ rd d (i : Int) ≤ days then L k (out ++ [(i : Int)]) ((i : Int) + 1) else L k out ((i : Int) + 1)) :
    Gets (fun r => r.length ≤ d.length ∧ ∀ x, x ∈ r ↔ InReach d days x) (fun k => L k [] 0) := by
  have key : ∀ (n i : Nat) (out : List Int), i + n = d.length → out.length ≤ i → (∀ x, x ∈ out ↔ InReach d days x ∧ x < (i : Int)) → Gets (fun r => r.length ≤ d.length ∧ ∀ x, x ∈ r ↔ InReach d days x) (fun k => L k out (i : Int)) := by
    intro n
    induction n with
    | zero =>
      intro i out hi ho hx
      obtain rfl : i = d.length := by omega
      exact Gets.step (f := fun _ => some out) (fun k => hend k out) (Gets.now ⟨ho, fun x => by rw [hx x]; exact ⟨fun h => h.1, fun h => ⟨h, h.2.1⟩⟩⟩)
    | succ n ih =>
      intro i out hi ho hx
      have hw := wrapi i (by omega)
      have e1 : ((i + 1 : Nat) : Int) = (i : Int) + 1 := by omega
      by_cases c : 0 ≤ rd d (i : Int) ∧ rd d (i : Int) ≤ days
      · have := ih (i + 1) (out ++ [(i : Int)]) (by omega) (by rw [List.length_append, List.length_singleton]; omega) (fun x => by
          rw [List.mem_append, List.mem_singleton, hx x, e1]
          constructor
          · rintro (⟨h1, h2⟩ | rfl)
            · exact ⟨h1, by omega⟩
            · exact ⟨⟨by omega, by omega, c.1, c.2⟩, by omega⟩
          · rintro ⟨h1, h2⟩
            by_cases h : x = (i : Int)
            · exact .inr h
            · exact .inl ⟨h1, by omega⟩)
        rw [e1] at this
        exact Gets.step (fun k => by rw [hstep k out i (by omega) ho hw, if_pos c]) this
      · have := ih (i + 1) out (by omega) (by omega) (fun x => by
          rw [hx x, e1]
          constructor
          · rintro ⟨h1, h2⟩; exact ⟨h1, by omega⟩
          · rintro ⟨h1, h2⟩
            refine ⟨h1, ?_⟩
            have : x ≠ (i : Int) := fun e => by subst e; exact c ⟨h1.2.2.1, h1.2.2.2⟩
            omega)
        rw [e1] at this
        exact Gets.step (fun k => by rw [hstep k out i (by omega) ho hw, if_neg c]) this
  exact key d.length 0 [] (by omega) (by simp) (fun x => ⟨fun h => by simp at h, fun h => by have := h.1.1; have := h.2; omega⟩)
theorem days_in {W H : Int} {C : List Int} {a x : Int} (ha : mOpen W H C a = true) (x0 : 0 ≤ x) (x1 : x < (C.length : Int)) (hr : 0 ≤ rd (mFrom W C a) x) : mOpen W H C x = true := by
  obtain ⟨hcell, _⟩ := mOpen_iff.1 ha
  obtain ⟨hL, _, _⟩ := mCell_iff.1 hcell
  rcases (from_fin ha).1.2 x x0 x1 hr with e | ⟨p, p0, p1, _, _, hx⟩
  · rw [e]; exact ha
  · obtain ⟨_, _, h2⟩ := near_in (mCell_iff.2 ⟨hL, p0, p1⟩) hx
    exact mOpen_iff.2 ⟨mCell_iff.2 ⟨hL, x0, x1⟩, h2⟩
theorem mDays_iff {W H : Int} {C : List Int} {a x n : Int} (x0 : 0 ≤ x) (x1 : x < (C.length : Int)) : (0 ≤ mDays W H C a x ∧ mDays W H C a x ≤ n) ↔ (mOpen W H C a = true ∧ InReach (mFrom W C a) n x) := by
  unfold mDays
  cases ha : mOpen W H C a with
  | false =>
    simp only [Bool.false_and, Bool.false_eq_true, if_false, false_and, iff_false]
    rintro ⟨h, _⟩; omega
  | true =>
    have hl := mFrom_len ha
    cases hx : mOpen W H C x with
    | true =>
      simp only [Bool.true_and, if_true]
      exact ⟨fun h => ⟨trivial, x0, by omega, h.1, h.2⟩, fun h => ⟨h.2.2.2.1, h.2.2.2.2⟩⟩
    | false =>
      simp only [Bool.and_false, Bool.false_eq_true, if_false]
      constructor
      · rintro ⟨h, _⟩; omega
      · rintro ⟨_, h⟩; exact absurd (days_in ha x0 x1 h.2.2.1) (by rw [hx]; decide)
def Area (W H : Int) (C : List Int) (a n : Int) (r : List Int) : Prop := r.length ≤ 64 ∧ (∀ x ∈ r, 0 ≤ x ∧ x < (C.length : Int)) ∧ ∀ x, 0 ≤ x → x < (C.length : Int) → (x ∈ r ↔ 0 ≤ mDays W H C a x ∧ mDays W H C a x ≤ n)
theorem area_none {W H : Int} {C : List Int} {a n : Int} (h : mOpen W H C a = false) : Area W H C a n [] := ⟨by simp, by simp, fun x x0 x1 => by rw [mDays_iff x0 x1, h]; simp⟩
theorem area_of {W H : Int} {C : List Int} {a n : Int} (h : mOpen W H C a = true) (hC : C.length ≤ 64) {r : List Int} (hr : r.length ≤ (mFrom W C a).length ∧ ∀ x, x ∈ r ↔ InReach (mFrom W C a) n x) : Area W H C a n r := by
  have hl := mFrom_len h
  refine ⟨by have := hr.1; omega, fun x hx => ?_, fun x x0 x1 => ?_⟩
  · have := (hr.2 x).1 hx
    exact ⟨this.1, by have := this.2.1; omega⟩
  · rw [mDays_iff x0 x1, hr.2 x, h]; simp
theorem implArea_ok (W H : Int) (C : List Int) (a n : Int) (hC : C.length ≤ 64) : Gets (Area W H C a n) (fun k => impl_SearchArea.f k W H C a n) := by
  unfold impl_SearchArea.f impl_Reach.f
  refine Gets.bind (P := Area W H C a n) ?_ (fun r hr => Gets.now hr)
  refine Gets.bind (P := fun t => t = mOpen W H C a) ⟨_, rfl, implOpen_ev W H C a (by omega)⟩ ?_
  rintro t rfl
  cases ho : mOpen W H C a with
  | false =>
    simp only [Bool.false_eq_true, if_false]
    exact Gets.now (area_none ho)
  | true =>
    simp only [if_true]
    refine Gets.bind (P := fun d => d = mFrom W C a) ⟨_, rfl, implDist_ev W H C a ho⟩ ?_
    rintro d rfl
    have hl := mFrom_len ho
    refine Gets.bind (P := Area W H C a n) ?_ (fun r hr => Gets.now hr)
    refine Gets.mono (fun r hr => area_of ho hC hr) ?_
    unfold impl_within.f
    refine reach_loop (fun k out i => impl_within.l0 k n out (mFrom W C a) ((mFrom W C a).length : Int) i) n (mFrom W C a) (by omega) (fun k out => ?_) (fun k out i hi ho hw => ?_)
    · simp only [impl_within.l0]
      rw [if_neg (by omega)]
    · simp only [impl_within.l0, hw]
      rw [if_pos (by omega), if_pos (by omega), if_pos (by omega)]
      by_cases c1 : rd (mFrom W C a) (i : Int) ≥ 0
      · rw [if_pos c1]
        by_cases c2 : rd (mFrom W C a) (i : Int) ≤ n
        · rw [if_pos c2, if_pos (by omega), if_pos ⟨c1, c2⟩]
        · rw [if_neg c2, if_neg (fun q => c2 q.2)]
      · rw [if_neg c1, if_neg (fun q => c1 q.1)]
theorem specArea_ok (W H : Int) (C : List Int) (a n : Int) (hC : C.length ≤ 64) : Gets (Area W H C a n) (fun k => spec_SearchArea.f k W H C a n) := by
  unfold spec_SearchArea.f spec_Reach.f
  simp only [Option.bind_some]
  refine Gets.bind (P := Area W H C a n) ?_ (fun r hr => Gets.now hr)
  refine Gets.bind (P := fun t => t = mOpen W H C a) ⟨_, rfl, specOpen_ev W H C a (by omega)⟩ ?_
  rintro t rfl
  cases ho : mOpen W H C a with
  | false =>
    simp only [Bool.false_eq_true, if_false]
    exact Gets.now (area_none ho)
  | true =>
    simp only [if_true]
    refine Gets.bind (P := fun d => d = mFrom W C a) ⟨_, rfl, specFrom_ev W H C a ho⟩ ?_
    rintro d rfl
    have hl := mFrom_len ho
    refine Gets.mono (fun r hr => area_of ho hC hr) ?_
    refine reach_loop (fun k out i => spec_Reach.l0 k n out (mFrom W C a) i) n (mFrom W C a) (by omega) (fun k out => ?_) (fun k out i hi ho hw => ?_)
    · simp only [spec_Reach.l0]
      rw [if_neg (by omega)]
    · simp only [spec_Reach.l0, hw]
      rw [if_pos (by omega), if_pos (by omega)]
      by_cases c1 : rd (mFrom W C a) (i : Int) ≥ 0
      · rw [if_pos c1]
        by_cases c2 : rd (mFrom W C a) (i : Int) ≤ n
        · rw [if_pos c2, if_pos (by omega), if_pos ⟨c1, c2⟩]
        · rw [if_neg c2, if_neg (fun q => c2 q.2)]
      · rw [if_neg c1, if_neg (fun q => c1 q.1)]
/-! ### The order of a search -/
theorem put_in (p s : List Int) (z c : Int) (m : Nat) (hm : p.length = m) : (((p ++ s) ++ [z]).take (m + 1) ++ (((p ++ s) ++ [z]).drop m).take (((p ++ s) ++ [z]).length - (m + 1))).set m c = p ++ c :: s := by
  subst hm
  cases s with
  | nil =>
    rw [List.append_nil, List.take_of_length_le (by simp), show (p ++ [z]).length - (p.length + 1) = 0 from by simp, List.take_zero, List.append_nil, set_append p z c [] _ rfl, List.append_nil]
  | cons q s =>
    have e1 : (p ++ q :: s) ++ [z] = (p ++ [q]) ++ (s ++ [z]) := by simp
    have e2 : (p ++ q :: s) ++ [z] = p ++ ((q :: s) ++ [z]) := by simp
    have h1 : ((p ++ q :: s) ++ [z]).take (p.length + 1) = p ++ [q] := by rw [e1]; exact List.take_left' (by simp)
    have h2 : ((p ++ q :: s) ++ [z]).drop p.length = (q :: s) ++ [z] := by rw [e2]; exact List.drop_left' rfl
    have h3 : ((p ++ q :: s) ++ [z]).length - (p.length + 1) = (q :: s).length := by simp; omega
    rw [h1, h2, h3, List.take_left' rfl, List.append_assoc, List.singleton_append, set_append p q c (q :: s) _ rfl]
    simp
def SO (W H : Int) (C : List Int) (base : Int) (e out : List Int) : Prop := out.Pairwise (fun a b => mDays W H C base a ≤ mDays W H C base b) ∧ (∀ c, c ∈ out ↔ c ∈ e ∧ 0 ≤ mDays W H C base c) ∧ out.length ≤ e.length
theorem so_in (W H : Int) (C : List Int) (base : Int) (l : List Int) (i c : Int) (P : List Int → Prop) (out : List Int) (ho : out.length ≤ 1000) (hs : out.Pairwise (fun a b => mDays W H C base a ≤ mDays W H C base b))
    (hR : ∀ p s, out = p ++ s → (∀ a ∈ p, mDays W H C base a ≤ mDays W H C base c) → (∀ b ∈ s, mDays W H C base c ≤ mDays W H C base b) → Gets P (fun k => impl_SearchOrder.j3 k base (p ++ c :: s) ((p ++ c :: s).map (mDays W H C base)) l (l.length : Int) i W H C)) :
    ∀ (n : Nat) (p s : List Int), p.length = n → out = p ++ s → (∀ b ∈ s, mDays W H C base c ≤ mDays W H C base b) → Gets P (fun k => impl_SearchOrder.l1 k base out (out.map (mDays W H C base)) c (mDays W H C base c) (n : Int) l (l.length : Int) i W H C) := by
  have stop : ∀ (n : Nat) (p s : List Int), p.length = n → out = p ++ s → (∀ a ∈ p, mDays W H C base a ≤ mDays W H C base c) → (∀ b ∈ s, mDays W H C base c ≤ mDays W H C base b) → Gets P (fun k => impl_SearchOrder.j2 k base out (out.map (mDays W H C base)) c (mDays W H C base c) (n : Int) l (l.length : Int) i false W H C) := by
    intro n p s hn he h1 h2
    refine Gets.step (fun k => ?_) (hR p s he h1 h2)
    have hl : out.length = p.length + s.length := by rw [he]; simp
    have w1 : wrap64 ((n : Int) + 1) = (n : Int) + 1 := wrapi _ (by omega)
    have t1 : ((n : Int) + 1).toNat = n + 1 := by omega
    have t0 : ((n : Int)).toNat = n := by omega
    have hlm : (out.map (mDays W H C base)).length = out.length := List.length_map ..
    have hy1 : (out ++ [0]).length = out.length + 1 := by simp
    have hy2 : (out.map (mDays W H C base) ++ [0]).length = out.length + 1 := by simp
    simp only [impl_SearchOrder.j2, Bool.false_eq_true, if_false, Option.bind_some, w1, t1, t0]
    rw [if_pos (by omega), if_pos (by omega), if_pos (by omega), if_pos (by omega), if_pos (by omega), if_pos (by omega), if_pos (by omega), if_pos (by omega), if_pos (by omega), if_pos (by omega)]
    rw [he, put_in p s 0 c n hn, List.map_append, put_in (p.map (mDays W H C base)) (s.map (mDays W H C base)) 0 _ n (by rw [List.length_map]; exact hn), List.map_append, List.map_cons]
  intro n
  induction n with
  | zero =>
    intro p s hn he h2
    have hp : p = [] := List.eq_nil_of_length_eq_zero hn
    refine Gets.step (fun k => ?_) (stop 0 p s hn he (by rw [hp]; simp) h2)
    simp only [impl_SearchOrder.l1]
    rw [if_neg (by omega)]
  | succ n ih =>
    intro p s hn he h2
    obtain ⟨p', q, rfl⟩ : ∃ p' q, p = p' ++ [q] := by
      have hne : p ≠ [] := fun e => by rw [e] at hn; simp at hn
      exact ⟨p.dropLast, p.getLast hne, (List.dropLast_concat_getLast hne).symm⟩
    have hn' : p'.length = n := by rw [List.length_append, List.length_singleton] at hn; omega
    have hl : out.length = n + 1 + s.length := by rw [he]; simp only [List.length_append, List.length_singleton]; omega
    have hlm : (out.map (mDays W H C base)).length = out.length := List.length_map ..
    have hw : wrap64 (((n + 1 : Nat) : Int) - 1) = (n : Int) := by rw [wrap_id (by omega) (by omega)]; omega
    have hg : out[n]? = some q := by rw [he, ← hn']; simp
    have hro : rd out (n : Int) = q := getD_of 0 hg
    have hrf : rd (out.map (mDays W H C base)) (n : Int) = mDays W H C base q := getD_of 0 (by rw [List.getElem?_map, hg]; rfl)
    have he' : out = p' ++ (q :: s) := by rw [he]; simp
    have next : mDays W H C base c ≤ mDays W H C base q → Gets P (fun k => impl_SearchOrder.j2 k base out (out.map (mDays W H C base)) c (mDays W H C base c) ((n + 1 : Nat) : Int) l (l.length : Int) i true W H C) := fun hq => by
      refine Gets.step (fun k => ?_) (ih p' (q :: s) hn' he' (fun b hb => by
        rcases List.mem_cons.1 hb with rfl | hb
        · exact hq
        · exact h2 b hb))
      simp only [impl_SearchOrder.j2, if_true, hw]
    have here : mDays W H C base q ≤ mDays W H C base c → Gets P (fun k => impl_SearchOrder.j2 k base out (out.map (mDays W H C base)) c (mDays W H C base c) ((n + 1 : Nat) : Int) l (l.length : Int) i false W H C) := fun hq => by
      refine stop (n + 1) (p' ++ [q]) s hn he (fun a ha => ?_) h2
      rcases List.mem_append.1 ha with ha | ha
      · rw [he'] at hs
        exact Int.le_trans ((List.pairwise_append.1 hs).2.2 a ha q (List.mem_cons_self ..)) hq
      · rw [List.mem_singleton] at ha
        rw [ha]; exact hq
    by_cases c1 : mDays W H C base q > mDays W H C base c
    · refine Gets.step (fun k => ?_) (next (by omega))
      simp only [impl_SearchOrder.l1, hw, hrf, hro]
      rw [if_pos (by omega), if_pos (by omega), if_pos (by omega), if_pos c1]
    · by_cases c2 : mDays W H C base q = mDays W H C base c
      · by_cases c3 : q > c
        · refine Gets.step (fun k => ?_) (next (by omega))
          simp only [impl_SearchOrder.l1, hw, hrf, hro]
          rw [if_pos (by omega), if_pos (by omega), if_pos (by omega), if_neg c1, if_pos c2, if_pos (by omega), decide_eq_true c3]
        · refine Gets.step (fun k => ?_) (here (by omega))
          simp only [impl_SearchOrder.l1, hw, hrf, hro]
          rw [if_pos (by omega), if_pos (by omega), if_pos (by omega), if_neg c1, if_pos c2, if_pos (by omega), decide_eq_false c3]
      · refine Gets.step (fun k => ?_) (here (by omega))
        simp only [impl_SearchOrder.l1, hw, hrf, hro]
        rw [if_pos (by omega), if_pos (by omega), if_pos (by omega), if_neg c1, if_neg c2]
theorem so_down (W H : Int) (C : List Int) (base : Int) (hC : C.length ≤ 64) (l : List Int) (hl : l.length ≤ 1000) : ∀ (t e out : List Int), l = e ++ t → SO W H C base e out → Gets (SO W H C base l) (fun k => impl_SearchOrder.l0 k base out (out.map (mDays W H C base)) l (l.length : Int) (e.length : Int) W H C)
  | [], e, out, h, ho => by
    rw [List.append_nil] at h
    subst h
    refine Gets.step (f := fun _ => some out) (fun k => ?_) (Gets.now ho)
    simp only [impl_SearchOrder.l0]
    rw [if_neg (by omega)]
  | c :: t, e, out, h, ho => by
    have hlen : l.length = e.length + (t.length + 1) := by rw [h]; simp
    have hr : rd l (e.length : Int) = c := getD_of 0 (by rw [h]; simp)
    have hsn : l = (e ++ [c]) ++ t := by rw [h]; simp
    have h1 : (((e ++ [c]).length : Nat) : Int) = (e.length : Int) + 1 := by simp
    have hw := wrapi e.length (by omega)
    obtain ⟨o1, o2, o3⟩ := ho
    have go : ∀ out', SO W H C base (e ++ [c]) out' → Gets (SO W H C base l) (fun k => impl_SearchOrder.j3 k base out' (out'.map (mDays W H C base)) l (l.length : Int) (e.length : Int) W H C) := fun out' ho' => by
      have ih := so_down W H C base hC l hl t (e ++ [c]) out' hsn ho'
      rw [h1] at ih
      exact Gets.step (fun k => by simp only [impl_SearchOrder.j3, hw]) ih
    refine Gets.step (f := fun k => (impl_Days.f k W H C base c).bind fun t429 => (if t429 < 0 then (impl_SearchOrder.j3 k base out (out.map (mDays W H C base)) l (l.length : Int) (e.length : Int) W H C) else (impl_SearchOrder.l1 k base out (out.map (mDays W H C base)) c t429 (out.length : Int) l (l.length : Int) (e.length : Int) W H C))) (fun k => ?_) ?_
    · simp only [impl_SearchOrder.l0, hr]
      rw [if_pos (by omega), if_pos (by omega), if_pos (by omega)]
    refine Gets.bind (P := fun t => t = mDays W H C base c) ⟨_, rfl, implDays_ev W H C base c (by omega)⟩ ?_
    rintro _ rfl
    by_cases hn : mDays W H C base c < 0
    · simp only [if_pos hn]
      refine go out ⟨o1, fun x => ?_, by rw [List.length_append, List.length_singleton]; omega⟩
      rw [o2 x, List.mem_append, List.mem_singleton]
      constructor
      · rintro ⟨q1, q2⟩; exact ⟨.inl q1, q2⟩
      · rintro ⟨q1 | q1, q2⟩
        · exact ⟨q1, q2⟩
        · rw [q1] at q2; omega
    · simp only [if_neg hn]
      refine so_in W H C base l (e.length : Int) c _ out (by omega) o1 (fun p s he q1 q2 => go _ ⟨?_, fun x => ?_, ?_⟩) out.length out [] rfl (by simp) (by simp)
      · rw [he] at o1
        obtain ⟨z1, z2, z3⟩ := List.pairwise_append.1 o1
        refine List.pairwise_append.2 ⟨z1, List.pairwise_cons.2 ⟨q2, z2⟩, fun a ha b hb => ?_⟩
        rcases List.mem_cons.1 hb with rfl | hb
        · exact q1 a ha
        · exact z3 a ha b hb
      · rw [show x ∈ p ++ c :: s ↔ x = c ∨ x ∈ out from by rw [he]; simp only [List.mem_append, List.mem_cons]; constructor <;> (intro h; rcases h with h | h | h) <;> simp [h], o2 x, List.mem_append, List.mem_singleton]
        constructor
        · rintro (rfl | ⟨q1, q2⟩)
          · exact ⟨.inr rfl, by omega⟩
          · exact ⟨.inl q1, q2⟩
        · rintro ⟨q1 | q1, q2⟩
          · exact .inr ⟨q1, q2⟩
          · exact .inl q1
      · have : out.length = p.length + s.length := by rw [he]; simp
        simp only [List.length_append, List.length_cons, List.length_nil]
        omega
theorem order_ok (W H : Int) (C : List Int) (base : Int) (hC : C.length ≤ 64) (l : List Int) (hl : l.length ≤ 1000) : Gets (SO W H C base l) (fun k => impl_SearchOrder.f k W H C base l) :=
  so_down W H C base hC l hl l [] [] rfl ⟨List.Pairwise.nil, fun c => by simp, by simp⟩
theorem specOrder_ok (W H : Int) (C : List Int) (base : Int) (hC : C.length ≤ 64) (l : List Int) (hl : l.length ≤ 1000) : Gets (fun r => r.length ≤ 5000) (fun k => spec_SearchOrder.f k W H C base l) := by
  have key : ∀ (n i : Nat) (out : List Int), i + n = C.length + 1 → out.length ≤ i * 64 → Gets (fun r => r.length ≤ 5000) (fun k => spec_SearchOrder.l0 k base l out (i : Int) W H C) := by
    intro n
    induction n with
    | zero =>
      intro i out hi ho
      refine Gets.step (f := fun _ => some out) (fun k => ?_) (Gets.now (by omega))
      simp only [spec_SearchOrder.l0]
      rw [if_neg (by omega)]
    | succ n ih =>
      intro i out hi ho
      have hw := wrapi i (by omega)
      have inner : ∀ (m j : Nat) (out' : List Int), j + m = C.length → out'.length ≤ i * 64 + j → Gets (fun r => r.length ≤ 5000) (fun k => spec_SearchOrder.l1 k base l out' (i : Int) (j : Int) W H C) := by
        intro m
        induction m with
        | zero =>
          intro j out' hj ho'
          have := ih (i + 1) out' (by omega) (by omega)
          rw [show ((i + 1 : Nat) : Int) = (i : Int) + 1 from by omega] at this
          refine Gets.step (fun k => ?_) this
          simp only [spec_SearchOrder.l1, hw]
          rw [if_neg (by omega)]
        | succ m ihm =>
          intro j out' hj ho'
          have hwj := wrapi j (by omega)
          have hj1 : ((j + 1 : Nat) : Int) = (j : Int) + 1 := by omega
          have g0 := ihm (j + 1) out' (by omega) (by omega)
          have g1 := ihm (j + 1) (out' ++ [(j : Int)]) (by omega) (by rw [List.length_append, List.length_singleton]; omega)
          rw [hj1] at g0 g1
          refine Gets.step (f := fun k => (spec_l14Has.f k l (j : Int)).bind fun t575 => (if t575 = true then ((spec_Days.f k W H C base (j : Int)).bind fun t576 => (if t576 = (i : Int) then (if out'.length < 17592186044416 then (spec_SearchOrder.l1 k base l (out' ++ [(j : Int)]) (i : Int) ((j : Int) + 1) W H C) else (none)) else (spec_SearchOrder.l1 k base l out' (i : Int) ((j : Int) + 1) W H C))) else (spec_SearchOrder.l1 k base l out' (i : Int) ((j : Int) + 1) W H C))) (fun k => ?_) ?_
          · simp only [spec_SearchOrder.l1, hwj]
            rw [if_pos (by omega)]
          refine Gets.bind (P := fun t => t = decide ((j : Int) ∈ l)) ⟨_, rfl, ev_at (specHas_at l (j : Int) (by omega))⟩ ?_
          rintro _ rfl
          by_cases c1 : (j : Int) ∈ l
          · simp only [decide_eq_true c1, if_true]
            refine Gets.bind (P := fun t => t = mDays W H C base (j : Int)) ⟨_, rfl, specDays_ev W H C base (j : Int) (by omega)⟩ ?_
            rintro _ rfl
            by_cases c2 : mDays W H C base (j : Int) = (i : Int)
            · simp only [if_pos c2, if_pos (show out'.length < 17592186044416 from by omega)]
              exact g1
            · simp only [if_neg c2]
              exact g0
          · simp only [decide_eq_false c1, Bool.false_eq_true, if_false]
            exact g0
      refine Gets.step (fun k => ?_) (inner C.length 0 out (by omega) (by omega))
      simp only [spec_SearchOrder.l0]
      rw [if_pos (by omega)]
      rfl
  exact key (C.length + 1) 0 [] (by omega) (by simp)
/-! ### Where rescuers meet the party -/
theorem isWay_ok (W H : Int) (C : List Int) (hC : C.length ≤ 64) (l : List Int) (hl : l.length ≤ 1000) : Gets (fun b => b = true → 0 < l.length) (fun k => impl_IsWay.f k W H C l) := by
  have key : ∀ (t e : List Int), l = e ++ t → (∀ x ∈ e, mOpen W H C x = true) → Gets (fun b => b = true → 0 < l.length) (fun k => impl_IsWay.l0 k l l (l.length : Int) (e.length : Int) W H C) := by
    intro t
    induction t with
    | nil =>
      intro e h he
      rw [List.append_nil] at h
      subst h
      refine Gets.step (f := fun _ => some (decide ((l.length : Int) > 0))) (fun k => ?_) (Gets.now (fun h => by have := of_decide_eq_true h; omega))
      simp only [impl_IsWay.l0]
      rw [if_neg (by omega)]
    | cons c t ih =>
      intro e h he
      have hlen : l.length = e.length + (t.length + 1) := by rw [h]; simp
      have hr : rd l (e.length : Int) = c := getD_of 0 (by rw [h]; simp)
      have hsn : l = (e ++ [c]) ++ t := by rw [h]; simp
      have h1 : (((e ++ [c]).length : Nat) : Int) = (e.length : Int) + 1 := by simp
      have hw := wrapi e.length (by omega)
      refine Gets.step (f := fun k => (impl_IsOpen.f k W H C c).bind fun t559 => (if t559 = true then (if (e.length : Int) > 0 then (if 0 ≤ (wrap64 ((e.length : Int) - 1)) then (if (wrap64 ((e.length : Int) - 1)) < (l.length : Int) then ((impl_Near.f k W H C (rd l (wrap64 ((e.length : Int) - 1)))).bind fun t561 => ((impl_has.f k t561 c).bind fun t564 => (if t564 = true then (impl_IsWay.l0 k l l (l.length : Int) ((e.length : Int) + 1) W H C) else (some false)))) else (none)) else (none)) else (impl_IsWay.l0 k l l (l.length : Int) ((e.length : Int) + 1) W H C)) else (some false))) (fun k => ?_) ?_
      · simp only [impl_IsWay.l0, hr, hw]
        rw [if_pos (by omega), if_pos (by omega), if_pos (by omega)]
      refine Gets.bind (P := fun b => b = mOpen W H C c) ⟨_, rfl, implOpen_ev W H C c (by omega)⟩ ?_
      rintro _ rfl
      cases hc : mOpen W H C c with
      | false =>
        simp only [Bool.false_eq_true, if_false]
        exact Gets.now (fun h => by simp at h)
      | true =>
        simp only [if_true]
        have g := ih (e ++ [c]) hsn (fun x hx => by
          rcases List.mem_append.1 hx with q | q
          · exact he x q
          · rw [List.mem_singleton] at q; rw [q]; exact hc)
        rw [h1] at g
        by_cases h0 : e.length = 0
        · simp only [if_neg (show ¬ ((e.length : Int) > 0) from by omega)]
          exact g
        · simp only [if_pos (show (e.length : Int) > 0 from by omega)]
          have hwd := wrapd e.length (by omega) (by omega)
          have hpr : rd l (((e.length - 1 : Nat)) : Int) ∈ e := by
            have hg : l[e.length - 1]? = some (e[e.length - 1]'(by omega)) := by
              rw [h, List.getElem?_append_left (by omega)]
              exact List.getElem?_eq_getElem _
            have e2 : rd l (((e.length - 1 : Nat)) : Int) = e[e.length - 1]'(by omega) := getD_of 0 hg
            rw [e2]
            exact List.getElem_mem _
          simp only [hwd, if_pos (show (0 : Int) ≤ ((e.length - 1 : Nat) : Int) from by omega), if_pos (show ((e.length - 1 : Nat) : Int) < (l.length : Int) from by omega)]
          refine Gets.bind (P := fun b => b = mNear W C (rd l (((e.length - 1 : Nat)) : Int))) ⟨_, rfl, implNear_ev W H C _ (mOpen_iff.1 (he _ hpr)).1⟩ ?_
          rintro _ rfl
          have hnl := near_len W C (rd l (((e.length - 1 : Nat)) : Int))
          refine Gets.bind (P := fun _ => True) ⟨_, trivial, ev_at (implHas_at _ c (by omega))⟩ ?_
          intro b _
          cases b with
          | false => simp only [Bool.false_eq_true, if_false]; exact Gets.now (fun h => by simp at h)
          | true => simp only [if_true]; exact g
  exact key l [] rfl (by simp)
def Meets (W H : Int) (C : List Int) (b : Int) (l : List Int) (start : Int) (r : Int × Int) : Prop := r.1 ≥ 0 → start ≤ r.1 ∧ r.1 ≤ 200 ∧ 0 ≤ start ∧ r.2 ∈ l ∧ mDays W H C b r.2 ≤ r.1 - start
theorem meet_ok (W H : Int) (C : List Int) (b : Int) (hC : C.length ≤ 64) (l : List Int) (hl : l.length ≤ 1000) (start : Int) : Gets (Meets W H C b l start) (fun k => impl_MeetDay.f k W H C b l start) := by
  unfold impl_MeetDay.f
  have hno : Gets (Meets W H C b l start) (fun k => impl_MeetDay.j0 k b l start true W H C) := Gets.step (f := fun _ => some ((-1), (-1))) (fun k => by simp only [impl_MeetDay.j0, if_true]) (Gets.now (fun h => by simp at h))
  refine Gets.bind (isWay_ok W H C hC l hl) ?_
  intro t ht
  cases t with
  | false => simp only [Bool.false_eq_true, if_false]; exact hno
  | true =>
    have hpos := ht rfl
    simp only [if_true, InRange_eq, Option.bind_some]
    by_cases c : 0 ≤ start ∧ start ≤ 100
    · simp only [decide_eq_true c, Bool.not_true]
      have key : ∀ (n : Nat) (d : Int), d + n = 201 → start ≤ d → Gets (Meets W H C b l start) (fun k => impl_MeetDay.l0 k b l start d W H C) := by
        intro n
        induction n with
        | zero =>
          intro d hd hs
          refine Gets.step (f := fun _ => some ((-1), (-1))) (fun k => ?_) (Gets.now (fun h => by simp at h))
          simp only [impl_MeetDay.l0]
          rw [if_neg (by omega)]
        | succ n ih =>
          intro d hd hs
          have hw : wrap64 (d + 1) = d + 1 := wrap_id (by omega) (by omega)
          have hws : wrap64 (d - start) = d - start := wrap_id (by omega) (by omega)
          have hwl : wrap64 ((l.length : Int) - 1) = (l.length : Int) - 1 := wrap_id (by omega) (by omega)
          have hm : 0 ≤ mn d ((l.length : Int) - 1) ∧ mn d ((l.length : Int) - 1) < (l.length : Int) := by
            unfold mn
            split <;> omega
          have hmem : rd l (mn d ((l.length : Int) - 1)) ∈ l := rd_mem hm.1 hm.2
          have g := ih (d + 1) (by omega) (by omega)
          refine Gets.step (f := fun k => (impl_Days.f k W H C b (rd l (mn d ((l.length : Int) - 1)))).bind fun t569 => (if t569 ≥ 0 then (if t569 ≤ (d - start) then (some (d, rd l (mn d ((l.length : Int) - 1)))) else (impl_MeetDay.l0 k b l start (d + 1) W H C)) else (impl_MeetDay.l0 k b l start (d + 1) W H C))) (fun k => ?_) ?_
          · simp only [impl_MeetDay.l0, hw, hws, hwl]
            rw [if_pos (by omega), if_pos hm.1, if_pos hm.2]
          refine Gets.bind (P := fun t => t = mDays W H C b (rd l (mn d ((l.length : Int) - 1)))) ⟨_, rfl, implDays_ev W H C b _ (by omega)⟩ ?_
          rintro _ rfl
          by_cases c1 : mDays W H C b (rd l (mn d ((l.length : Int) - 1))) ≥ 0
          · simp only [if_pos c1]
            by_cases c2 : mDays W H C b (rd l (mn d ((l.length : Int) - 1))) ≤ d - start
            · simp only [if_pos c2]
              exact Gets.now (fun _ => ⟨hs, show d ≤ 200 by omega, c.1, hmem, c2⟩)
            · simp only [if_neg c2]
              exact g
          · simp only [if_neg c1]
            exact g
      refine Gets.step (fun k => ?_) (key (201 - start).toNat start (by omega) (Int.le_refl _))
      simp only [impl_MeetDay.j0, Bool.false_eq_true, if_false]
    · simp only [decide_eq_false c, Bool.not_false]
      exact hno
/-! ### What is still to be searched -/
theorem still_ev (l done : List Int) (hl : l.length ≤ 1048576) (hd : done.length ≤ 1048576) : Ev (fun k => impl_StillIn.f k l done) (l.filter (fun x => !decide (x ∈ done))) := by
  have key : ∀ (t e out : List Int), l = e ++ t → out.length ≤ e.length → Ev (fun k => impl_StillIn.l0 k done out l (l.length : Int) (e.length : Int)) (out ++ t.filter (fun x => !decide (x ∈ done))) := by
    intro t
    induction t with
    | nil =>
      intro e out h ho
      have hlen : l.length = e.length := by rw [h]; simp
      refine Ev.step (f := fun _ => some out) (fun k => ?_) (by simpa using Ev.now _)
      simp only [impl_StillIn.l0]
      rw [if_neg (by omega)]
    | cons c t ih =>
      intro e out h ho
      have hlen : l.length = e.length + (t.length + 1) := by rw [h]; simp
      have hr : rd l (e.length : Int) = c := getD_of 0 (by rw [h]; simp)
      have hsn : l = (e ++ [c]) ++ t := by rw [h]; simp
      have h1 : (((e ++ [c]).length : Nat) : Int) = (e.length : Int) + 1 := by simp
      have hw := wrapi e.length (by omega)
      refine Ev.step (f := fun k => (impl_has.f k done c).bind fun t600 => (if t600 = true then (impl_StillIn.l0 k done out l (l.length : Int) ((e.length : Int) + 1)) else (if out.length < 17592186044416 then (impl_StillIn.l0 k done (out ++ [c]) l (l.length : Int) ((e.length : Int) + 1)) else (none)))) (fun k => ?_) ?_
      · simp only [impl_StillIn.l0, hr, hw]
        rw [if_pos (by omega), if_pos (by omega), if_pos (by omega)]
      refine Ev.bind (ev_at (implHas_at done c (by omega))) ?_
      by_cases hc : c ∈ done
      · have g := ih (e ++ [c]) out hsn (by rw [List.length_append, List.length_singleton]; omega)
        rw [h1] at g
        simp only [decide_eq_true hc, if_true]
        rw [List.filter_cons, decide_eq_true hc]
        exact g
      · have g := ih (e ++ [c]) (out ++ [c]) hsn (by simp only [List.length_append, List.length_singleton]; omega)
        rw [h1] at g
        simp only [decide_eq_false hc, Bool.false_eq_true, if_false, if_pos (show out.length < 17592186044416 from by omega)]
        rw [List.filter_cons, decide_eq_false hc]
        rw [List.append_assoc, List.singleton_append] at g
        exact g
  exact key l [] [] rfl (by simp)
/-! ### The draws -/
theorem drawCell_ok (c : List Int) (hl : c.length ≤ 1048576) : Gets (fun r => r.2.2.1.length ≤ 64) (fun k => spec_DrawIsCell.f k c) := by
  unfold spec_DrawIsCell.f
  refine Gets.bind (new_ok c hl) ?_
  rintro ⟨b, i, h⟩ ⟨rfl, hc⟩
  refine Gets.bind (any4_ok _ i h hc) ?_
  rintro ⟨W, H, C, i1, h1⟩ ⟨r1, hc1⟩
  simp only at r1 hc1 ⊢
  obtain ⟨v, i2, h2, e2, _, _, hc2⟩ := below_ok _ i1 h1 30 hc1
  obtain ⟨u, i3, h3, e3, _, _, hc3⟩ := below_ok _ i2 h2 30 hc2
  obtain ⟨w, i4, h4, e4, hc4⟩ := raw4_ok _ i3 h3 hc3
  obtain ⟨z, i5, h5, e5, _, hc5⟩ := int_ok _ i4 h4 [v, u, 0, w] (by simp) hc4
  simp only [e2, e3, e4, e5, Option.bind_some]
  exact Gets.now r1
theorem drawReach_ok (c : List Int) (hl : c.length ≤ 1048576) : Gets (fun r => r.2.2.1.length ≤ 64) (fun k => spec_DrawReach.f k c) := by
  unfold spec_DrawReach.f
  refine Gets.bind (drawCell_ok c hl) ?_
  rintro ⟨W, H, C, a⟩ r1
  refine Gets.bind (new_ok c hl) ?_
  rintro ⟨b, i, h⟩ ⟨rfl, hc⟩
  simp only at r1 hc ⊢
  obtain ⟨z, i5, h5, e5, _, hc5⟩ := int_ok _ i h [0, 1, 2, 4, 99, (-1)] (by simp) hc
  simp only [e5, Option.bind_some]
  exact Gets.now r1
theorem drawOrder_ok (c : List Int) (hl : c.length ≤ 1048576) : Gets (fun r => r.2.2.1.length ≤ 64 ∧ r.2.2.2.2.length ≤ 64) (fun k => spec_DrawSearchOrder.f k c) := by
  unfold spec_DrawSearchOrder.f
  refine Gets.bind (drawReach_ok c hl) ?_
  rintro ⟨W, H, C, a, n⟩ r1
  refine Gets.bind (new_ok c hl) ?_
  rintro ⟨b, i, h⟩ ⟨rfl, hc⟩
  simp only at r1 hc ⊢
  obtain ⟨v, i2, h2, e2, _, _, hc2⟩ := below_ok _ i h 8 hc
  simp only [e2, Option.bind_some]
  refine Gets.bind (specArea_ok W H C a n r1) ?_
  intro r hr
  exact Gets.now ⟨r1, hr.1⟩
theorem way_len (W : Int) (C D : List Int) : ∀ (n : Nat) (x : Int), (way W C D n x).length = n
  | 0, _ => rfl
  | n + 1, x => by rw [way, List.length_cons, way_len W C D n]
theorem drawWay_ok (c : List Int) (hl : c.length ≤ 1048576) : Gets (fun r => r.2.2.1.length ≤ 64 ∧ r.2.2.2.length ≤ 65) (fun k => spec_DrawIsWay.f k c) := by
  unfold spec_DrawIsWay.f
  refine Gets.bind (P := fun r => r.2.2.1.length ≤ 64) ?_ ?_
  · unfold spec_DrawApart.f
    refine Gets.bind (drawCell_ok c hl) ?_
    rintro ⟨W, H, C, a⟩ r1
    refine Gets.bind (new_ok c hl) ?_
    rintro ⟨b, i, h⟩ ⟨rfl, hc⟩
    simp only at r1 hc ⊢
    obtain ⟨v, i2, h2, e2, _, _, hc2⟩ := below_ok _ i h 30 hc
    simp only [e2, Option.bind_some]
    exact Gets.now r1
  · rintro ⟨W, H, C, a, b⟩ r1
    simp only at r1 ⊢
    refine Gets.bind (P := fun t => t = mWayTo W H C a b) ⟨_, rfl, specWayTo_ev W H C a b (by omega)⟩ ?_
    rintro _ rfl
    have hwl : (mWayTo W H C a b).length ≤ 65 := by
      unfold mWayTo
      by_cases h : mDays W H C a b < 0
      · rw [if_pos h]; simp
      · rw [if_neg h, List.length_cons, way_len]
        obtain ⟨ha, hb, hr⟩ := mWay_days h
        obtain ⟨_, a0, a1⟩ := mCell_iff.1 (mOpen_iff.1 ha).1
        have := from_top hb a0 a1
        omega
    refine Gets.bind (new_ok c hl) ?_
    rintro ⟨d, i, h⟩ ⟨rfl, hc⟩
    simp only at hc ⊢
    have hj : ∀ (t : Bool) (i h : Int), OkC d i → (t = true → 0 < (mWayTo W H C a b).length) → Gets (fun r => r.2.2.1.length ≤ 64 ∧ r.2.2.2.length ≤ 65) (fun k => spec_DrawIsWay.j0 k (mWayTo W H C a b) t W H C d i h) := by
      intro t i h hc ht
      cases t with
      | false => exact Gets.step (f := fun _ => some (W, H, C, mWayTo W H C a b)) (fun k => by simp only [spec_DrawIsWay.j0, Bool.false_eq_true, if_false]) (Gets.now ⟨r1, hwl⟩)
      | true =>
        have hpos := ht rfl
        obtain ⟨v, i2, h2, e2, a2, b2, hc2⟩ := below_ok _ i h ((mWayTo W H C a b).length : Int) hc
        have b2 := b2 (by omega)
        obtain ⟨u, i3, h3, e3, _, _, hc3⟩ := below_ok _ i2 h2 30 hc2
        refine Gets.step (f := fun _ => some (W, H, C, (mWayTo W H C a b).set v.toNat u)) (fun k => ?_) (Gets.now ⟨r1, by simpa using hwl⟩)
        simp only [spec_DrawIsWay.j0, if_true, e2, e3, Option.bind_some, if_pos a2, if_pos b2]
    by_cases c0 : ((mWayTo W H C a b).length : Int) > 0
    · simp only [if_pos c0]
      obtain ⟨v, i2, h2, e2, hc2⟩ := once_ok _ i h 3 hc
      simp only [e2, Option.bind_some]
      exact hj v i2 h2 hc2 (fun _ => by omega)
    · simp only [if_neg c0]
      exact hj false i h hc (fun q => by simp at q)
theorem drawMeet_ok (c : List Int) (hl : c.length ≤ 1048576) : Gets (fun r => r.2.2.1.length ≤ 64 ∧ r.2.2.2.2.1.length ≤ 65) (fun k => spec_DrawMeetDay.f k c) := by
  unfold spec_DrawMeetDay.f
  refine Gets.bind (drawWay_ok c hl) ?_
  rintro ⟨W, H, C, l⟩ ⟨r1, r2⟩
  refine Gets.bind (new_ok c hl) ?_
  rintro ⟨b, i, h⟩ ⟨rfl, hc⟩
  simp only at r1 r2 hc ⊢
  obtain ⟨v, i2, h2, e2, _, _, hc2⟩ := below_ok _ i h 12 hc
  obtain ⟨z, i5, h5, e5, _, hc5⟩ := int_ok _ i2 h2 [0, 1, 3, 8, 100, 101, (-1)] (by simp) hc2
  simp only [e2, e5, Option.bind_some]
  exact Gets.now ⟨r1, r2⟩
theorem drawStill_ok (c : List Int) (hl : c.length ≤ 1048576) : Gets (fun r => r.1.length ≤ 64 ∧ r.2.length ≤ 5000) (fun k => spec_DrawStillIn.f k c) := by
  unfold spec_DrawStillIn.f
  refine Gets.bind (drawOrder_ok c hl) ?_
  rintro ⟨W, H, C, base, l⟩ ⟨r1, r2⟩
  simp only at r1 r2 ⊢
  refine Gets.bind (specOrder_ok W H C base r1 l (by omega)) ?_
  intro o ho
  have hw : wrap64 ((o.length : Int) / 2) = (o.length : Int) / 2 := wrap_id (by omega) (by omega)
  simp only [hw, if_pos (show (0 : Int) ≤ (o.length : Int) / 2 from by omega), if_pos (show (o.length : Int) / 2 ≤ (o.length : Int) from by omega)]
  exact Gets.now ⟨r2, by simp only [List.length_take]; omega⟩
end FnSearchPf
open FnSearchPf
theorem FnSearch : laws_FnSearch.Pure := by
  intro c hl hs hw
  apply Ev.rounds (g := fun k => laws_FnSearch.f k c)
  unfold laws_FnSearch.f
  simp only [laws_big.f, Option.bind_some, decide_eq_true_eq]
  by_cases hb : (c.length : Int) > 1048576
  · simp only [if_pos hb]
    exact Ev.now _
  · simp only [if_neg hb]
    have hb : c.length ≤ 1048576 := by omega
    have hj3 : Ev (fun k => laws_FnSearch.j3 k c false) true := by
      refine Ev.step (f := fun k => (spec_DrawStillIn.f k c).bind fun bt658 => ((impl_StillIn.f k bt658.1 bt658.2).bind fun t664 => (laws_FnSearch.l3 k bt658.1 bt658.2 t664 0))) (fun k => by simp only [laws_FnSearch.j3, Bool.false_eq_true, if_false]) ?_
      refine Gets.ev (drawStill_ok c hb) ?_
      rintro ⟨s, done⟩ ⟨r1, r2⟩
      simp only at r1 r2 ⊢
      refine Ev.bind (still_ev s done (by omega) (by omega)) ?_
      have hfl : (s.filter (fun x => !decide (x ∈ done))).length ≤ s.length := List.length_filter_le ..
      refine up_loop (fun k i => laws_FnSearch.l3 k s done (s.filter (fun x => !decide (x ∈ done))) i) s.length true ?_ (fun i hi g => ?_)
      · refine Ev.step (f := fun _ => some true) (fun k => ?_) (Ev.now _)
        simp only [laws_FnSearch.l3]
        rw [if_neg (by omega), decide_eq_true (by omega)]
      · have hwi := wrapi i (by omega)
        have hmem : rd s (i : Int) ∈ s := rd_mem (by omega) (by omega)
        refine Ev.step (f := fun k => (laws_contains.f k (s.filter (fun x => !decide (x ∈ done))) (rd s (i : Int))).bind fun t668 => ((impl_IsFound.f k s done (rd s (i : Int))).bind fun t670 => (if (t668 == t670) = true then (some false) else (laws_FnSearch.l3 k s done (s.filter (fun x => !decide (x ∈ done))) ((i : Int) + 1))))) (fun k => ?_) ?_
        · simp only [laws_FnSearch.l3, hwi]
          rw [if_pos (by omega), if_pos (by omega)]
        refine Ev.bind (ev_at (contains_at _ _ (by omega))) ?_
        refine Ev.bind (a := decide (rd s (i : Int) ∈ done)) ?_ ?_
        · unfold impl_IsFound.f
          refine Ev.bind (ev_at (implHas_at s _ (by omega))) ?_
          simp only [decide_eq_true hmem, if_true]
          refine Ev.bind (ev_at (implHas_at done _ (by omega))) ?_
          exact Ev.now _
        · by_cases hd : rd s (i : Int) ∈ done
          · have e1 : ¬ (rd s (i : Int) ∈ s.filter (fun x => !decide (x ∈ done))) := by simp [List.mem_filter, hd]
            simp only [decide_eq_true hd, decide_eq_false e1]
            exact g
          · have e1 : rd s (i : Int) ∈ s.filter (fun x => !decide (x ∈ done)) := by simp [List.mem_filter, hd, hmem]
            simp only [decide_eq_false hd, decide_eq_true e1]
            exact g
    have hmeet : Ev (fun k => (spec_DrawMeetDay.f k c).bind fun bt643 => ((impl_MeetDay.f k bt643.1 bt643.2.1 bt643.2.2.1 bt643.2.2.2.1 bt643.2.2.2.2.1 bt643.2.2.2.2.2).bind fun bt654 => (if bt654.1 ≥ 0 then (if bt654.1 < bt643.2.2.2.2.2 then (laws_FnSearch.j3 k c true) else ((laws_contains.f k bt643.2.2.2.2.1 bt654.2).bind fun t656 => (if t656 = true then ((impl_Days.f k bt643.1 bt643.2.1 bt643.2.2.1 bt643.2.2.2.1 bt654.2).bind fun t657 => (laws_FnSearch.j3 k c (decide (t657 > (wrap64 (bt654.1 - bt643.2.2.2.2.2)))))) else (laws_FnSearch.j3 k c true)))) else (laws_FnSearch.j3 k c false)))) true := by
      refine Gets.ev (drawMeet_ok c hb) ?_
      rintro ⟨W, H, C, b, l, start⟩ ⟨r1, r2⟩
      simp only at r1 r2 ⊢
      refine Gets.ev (meet_ok W H C b r1 l (by omega) start) ?_
      rintro ⟨d, cell⟩ hm
      simp only
      by_cases c0 : d ≥ 0
      · obtain ⟨m1, m2, m3, m4, m5⟩ := hm c0
        simp only at m1 m2 m3 m4 m5
        simp only [if_pos c0, if_neg (show ¬ d < start from by omega)]
        refine Ev.bind (ev_at (contains_at l cell (by omega))) ?_
        simp only [decide_eq_true m4, if_true]
        refine Ev.bind (implDays_ev W H C b cell (by omega)) ?_
        rw [wrap_id (n := d - start) (by omega) (by omega), decide_eq_false (by omega)]
        exact hj3
      · simp only [if_neg c0]
        exact hj3
    have horder : Ev (fun k => (spec_DrawSearchOrder.f k c).bind fun bt620 => ((impl_SearchOrder.f k bt620.1 bt620.2.1 bt620.2.2.1 bt620.2.2.2.1 bt620.2.2.2.2).bind fun t630 => (laws_FnSearch.l1 k c bt620.2.2.2.1 bt620.2.2.2.2 t630 0 bt620.1 bt620.2.1 bt620.2.2.1))) true := by
      refine Gets.ev (drawOrder_ok c hb) ?_
      rintro ⟨W, H, C, base, l⟩ ⟨r1, r2⟩
      simp only at r1 r2 ⊢
      refine Gets.ev (order_ok W H C base r1 l (by omega)) ?_
      rintro o ⟨o1, o2, o3⟩
      have hl2 : Ev (fun k => laws_FnSearch.l2 k c base l o 0 W H C) true := by
        refine up_loop (fun k i => laws_FnSearch.l2 k c base l o i W H C) o.length true ?_ (fun i hi g => ?_)
        · refine Ev.step (fun k => ?_) hmeet
          simp only [laws_FnSearch.l2]
          rw [if_neg (by omega)]
        · have hwi := wrapi i (by omega)
          have hmem : rd o (i : Int) ∈ o := rd_mem (by omega) (by omega)
          have hml : rd o (i : Int) ∈ l := ((o2 _).1 hmem).1
          by_cases h0 : i = 0
          · refine Ev.step (f := fun k => (laws_contains.f k l (rd o (i : Int))).bind fun t638 => (if t638 = true then (laws_FnSearch.l2 k c base l o ((i : Int) + 1) W H C) else (some false))) (fun k => ?_) ?_
            · simp only [laws_FnSearch.l2, hwi]
              rw [if_pos (by omega), if_pos (by omega)]
              simp only [if_neg (show ¬ ((i : Int) > 0) from by omega)]
            · refine Ev.bind (ev_at (contains_at l _ (by omega))) ?_
              simp only [decide_eq_true hml, if_true]
              exact g
          · have hwd := wrapd i (by omega) (by omega)
            have hle : mDays W H C base (rd o ((i - 1 : Nat) : Int)) ≤ mDays W H C base (rd o (i : Int)) := by
              have := List.pairwise_iff_getElem.1 o1 (i - 1) i (by omega) hi (by omega)
              have e1 : rd o ((i - 1 : Nat) : Int) = o[i - 1]'(by omega) := getD_of 0 (List.getElem?_eq_getElem _)
              have e2 : rd o (i : Int) = o[i] := getD_of 0 (List.getElem?_eq_getElem _)
              rw [e1, e2]
              exact this
            refine Ev.step (f := fun k => (laws_contains.f k l (rd o (i : Int))).bind fun t638 => (if t638 = true then ((impl_Days.f k W H C base (rd o ((i - 1 : Nat) : Int))).bind fun t640 => ((impl_Days.f k W H C base (rd o (i : Int))).bind fun t642 => (if t640 > t642 then (some false) else (laws_FnSearch.l2 k c base l o ((i : Int) + 1) W H C)))) else (some false))) (fun k => ?_) ?_
            · simp only [laws_FnSearch.l2, hwi, hwd]
              rw [if_pos (by omega), if_pos (by omega)]
              simp only [if_pos (show ((i : Int) > 0) from by omega), if_pos (show (0 : Int) ≤ ((i - 1 : Nat) : Int) from by omega), if_pos (show ((i - 1 : Nat) : Int) < (o.length : Int) from by omega)]
            · refine Ev.bind (ev_at (contains_at l _ (by omega))) ?_
              simp only [decide_eq_true hml, if_true]
              refine Ev.bind (implDays_ev W H C base _ (by omega)) ?_
              refine Ev.bind (implDays_ev W H C base _ (by omega)) ?_
              simp only [if_neg (Int.not_lt.2 hle)]
              exact g
      refine up_loop (fun k i => laws_FnSearch.l1 k c base l o i W H C) l.length true ?_ (fun i hi g => ?_)
      · refine Ev.step (fun k => ?_) hl2
        simp only [laws_FnSearch.l1]
        rw [if_neg (by omega)]
      · have hwi := wrapi i (by omega)
        have hmem : rd l (i : Int) ∈ l := rd_mem (by omega) (by omega)
        refine Ev.step (f := fun k => (laws_contains.f k o (rd l (i : Int))).bind fun t634 => ((impl_Days.f k W H C base (rd l (i : Int))).bind fun t636 => (if (t634 != (decide (t636 ≥ 0))) = true then (some false) else (laws_FnSearch.l1 k c base l o ((i : Int) + 1) W H C)))) (fun k => ?_) ?_
        · simp only [laws_FnSearch.l1, hwi]
          rw [if_pos (by omega), if_pos (by omega)]
        refine Ev.bind (ev_at (contains_at o _ (by omega))) ?_
        refine Ev.bind (implDays_ev W H C base _ (by omega)) ?_
        have e1 : decide (rd l (i : Int) ∈ o) = decide (mDays W H C base (rd l (i : Int)) ≥ 0) := decide_eq_decide.2 ((o2 _).trans ⟨fun h => h.2, fun h => ⟨hmem, h⟩⟩)
        simp only [e1, bne_self_eq_false, Bool.false_eq_true, if_false]
        exact g
    refine Gets.ev (P := fun r => r.2.2.1.length ≤ 64) ?_ ?_
    · unfold spec_DrawSearchArea.f
      refine Gets.bind (drawReach_ok c hb) ?_
      rintro ⟨W, H, C, a, n⟩ r1
      exact Gets.now r1
    rintro ⟨W, H, C, a, n⟩ r1
    simp only at r1 ⊢
    refine Gets.ev (implArea_ok W H C a n r1) ?_
    rintro r ⟨q1, q2, q3⟩
    refine up_loop (fun k i => laws_FnSearch.l0 k c a n r i W H C) C.length true ?_ (fun i hi g => ?_)
    · refine Ev.step (fun k => ?_) horder
      simp only [laws_FnSearch.l0]
      rw [if_neg (by omega)]
    · have hwi := wrapi i (by omega)
      refine Ev.step (f := fun k => (impl_Days.f k W H C a (i : Int)).bind fun t618 => ((laws_contains.f k r (i : Int)).bind fun t619 => (if t618 ≥ 0 then (if (t619 != (decide (t618 ≤ n))) = true then (some false) else (laws_FnSearch.l0 k c a n r ((i : Int) + 1) W H C)) else (if (t619 != false) = true then (some false) else (laws_FnSearch.l0 k c a n r ((i : Int) + 1) W H C))))) (fun k => ?_) ?_
      · simp only [laws_FnSearch.l0, hwi]
        rw [if_pos (by omega)]
      refine Ev.bind (implDays_ev W H C a (i : Int) (by omega)) ?_
      refine Ev.bind (ev_at (contains_at r _ (by omega))) ?_
      have h3 := q3 (i : Int) (by omega) (by omega)
      by_cases c0 : mDays W H C a (i : Int) ≥ 0
      · have e1 : decide ((i : Int) ∈ r) = decide (mDays W H C a (i : Int) ≤ n) := decide_eq_decide.2 (h3.trans ⟨fun h => h.2, fun h => ⟨c0, h⟩⟩)
        simp only [if_pos c0, e1, bne_self_eq_false, Bool.false_eq_true, if_false]
        exact g
      · have e1 : ¬ ((i : Int) ∈ r) := fun h => c0 (h3.1 h).1
        simp only [if_neg c0, decide_eq_false e1, bne_self_eq_false, Bool.false_eq_true, if_false]
        exact g
end Go.Proofs.Ytimpjccgnkbgmaa.Pure
