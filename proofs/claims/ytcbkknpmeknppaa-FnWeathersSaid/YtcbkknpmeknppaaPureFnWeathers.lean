/- FnWeathers: the pure statement of the law, over the printed functions. No condition beyond the statement's own. -/
import Derived.Test.YtcbkknpmeknppaaSFnWeathersx20
import Derived.Test.YtcbkknpmeknppaaLib
import Derived.Test.YtcbkknpmeknppaaOpens
namespace Go.Proofs.Ytcbkknpmeknppaa.Pure
open Go.RowKit Go.Proofs.Ytcbkknpmeknppaa.PFnWeathers Go.Proofs.YtcbkknpmeknppaaW.PrintWords Go.Proofs.YtcbkknpmeknppaaW.PrintLast Go.Proofs.Ytcbkknpmeknppaa.Lib Go.Proofs.Ytcbkknpmeknppaa.Opens
set_option linter.unusedVariables false
set_option linter.unusedSimpArgs false
namespace FnWeathersPf
theorem InRange_eq (a b c : Int) : impl_InRange.f a b c = some (decide (b ≤ a ∧ a ≤ c)) := by
  unfold impl_InRange.f
  by_cases h : b ≤ a
  · rw [if_pos h]; simp [h]
  · rw [if_neg h]; simp [h]
theorem l1In_eq (a b c : Int) : spec_l1In.f a b c = some (decide (b ≤ a ∧ a ≤ c)) := by
  unfold spec_l1In.f
  by_cases h : a ≥ b
  · rw [if_pos h]; simp [h]
  · rw [if_neg h]; simp [show ¬ (b ≤ a) from by omega]
/-! ### A land and its cells -/
theorem mul64 {W H : Int} (h0 : 1 ≤ W ∧ W ≤ 8) (h2 : 1 ≤ H ∧ H ≤ 8) : 1 ≤ W * H ∧ W * H ≤ 64 := by
  have hW : W = 1 ∨ W = 2 ∨ W = 3 ∨ W = 4 ∨ W = 5 ∨ W = 6 ∨ W = 7 ∨ W = 8 := by omega
  rcases hW with rfl | rfl | rfl | rfl | rfl | rfl | rfl | rfl <;> omega
def mLand (W H : Int) (C : List Int) : Bool := decide ((1 ≤ W ∧ W ≤ 8) ∧ (1 ≤ H ∧ H ≤ 8) ∧ (C.length : Int) = W * H ∧ ∀ x ∈ C, 0 ≤ x ∧ x ≤ 2)
def mCell (W H : Int) (C : List Int) (n : Int) : Bool := mLand W H C && decide (0 ≤ n ∧ n ≤ (C.length : Int) - 1)
def mOpen (W H : Int) (C : List Int) (n : Int) : Bool := mCell W H C n && (rd C n != 2)
theorem mLand_iff {W H : Int} {C : List Int} : mLand W H C = true ↔ ((1 ≤ W ∧ W ≤ 8) ∧ (1 ≤ H ∧ H ≤ 8) ∧ (C.length : Int) = W * H ∧ ∀ x ∈ C, 0 ≤ x ∧ x ≤ 2) := by simp [mLand]
theorem mLand_len {W H : Int} {C : List Int} (h : mLand W H C = true) : C.length ≤ 64 := by
  obtain ⟨h1, h2, h3, _⟩ := mLand_iff.1 h
  have := mul64 h1 h2
  omega
theorem mCell_iff {W H : Int} {C : List Int} {n : Int} : mCell W H C n = true ↔ mLand W H C = true ∧ 0 ≤ n ∧ n < (C.length : Int) := by
  simp only [mCell, Bool.and_eq_true, decide_eq_true_eq]
  constructor
  · rintro ⟨h, h1, h2⟩; exact ⟨h, h1, by omega⟩
  · rintro ⟨h, h1, h2⟩; exact ⟨h, h1, by omega⟩
theorem mOpen_iff {W H : Int} {C : List Int} {n : Int} : mOpen W H C n = true ↔ mCell W H C n = true ∧ rd C n ≠ 2 := by simp [mOpen]
theorem runAll {p : Int → Prop} [DecidablePred p] : ∀ (l : List Int) (i : Nat), run (fun (_ : Nat) (_ : Unit) (x : Int) => if p x then (.inr () : Bool ⊕ Unit) else .inl false) (fun _ => true) i () l = decide (∀ x ∈ l, p x)
  | [], _ => by simp [run]
  | x :: t, i => by
    by_cases h : p x
    · rw [run_inr (show (if p x then (.inr () : Bool ⊕ Unit) else .inl false) = .inr () from if_pos h), runAll t (i + 1)]
      simp [h]
    · rw [run_inl (show (if p x then (.inr () : Bool ⊕ Unit) else .inl false) = .inl false from if_neg h)]
      simp [h]
theorem specLand_loop (W H : Int) (C : List Int) (hl : C.length ≤ 4611686018427387904) : Ev (fun k => spec_IsLand.l0 k 0 W H C) (decide (∀ x ∈ C, 0 ≤ x ∧ x ≤ 2)) := by
  rw [← runAll (p := fun x => 0 ≤ x ∧ x ≤ 2) C 0]
  exact ev_loop0 (fun k _ i => spec_IsLand.l0 k i W H C) C _ (fun _ => true) hl ()
    (fun k s => by simp only [spec_IsLand.l0]; rw [if_neg (by omega)])
    (fun k s i x hx hw => by
      have hi := lt_of_get hx
      have hr : rd C (i : Int) = x := getD_of 0 hx
      simp only [spec_IsLand.l0, hr, hw, l1In_eq, Option.bind_some]; rw [if_pos (by omega), if_pos (by omega)]
      by_cases h : 0 ≤ x ∧ x ≤ 2
      · simp [h]
      · simp [h])
theorem specLand_ev (W H : Int) (C : List Int) (hC : C.length ≤ 4611686018427387904) : Ev (fun k => spec_IsLand.f k W H C) (mLand W H C) := by
  unfold spec_IsLand.f
  simp only [l1In_eq, Option.bind_some]
  have hno : mLand W H C = false → Ev (fun k => spec_IsLand.j0 k true W H C) (mLand W H C) := fun e => by
    rw [e]
    exact Ev.step (f := fun _ => some false) (fun k => by simp [spec_IsLand.j0]) (Ev.now _)
  by_cases h1 : 1 ≤ W ∧ W ≤ 8
  · simp only [decide_eq_true h1, if_true]
    by_cases h2 : 1 ≤ H ∧ H ≤ 8
    · simp only [decide_eq_true h2, if_true]
      have hm := mul64 h1 h2
      simp only [wrap_id (n := W * H) (by omega) (by omega)]
      by_cases h3 : (C.length : Int) = W * H
      · have hb : ((C.length : Int) != W * H) = false := by simp [h3]
        simp only [hb]
        have e : mLand W H C = decide (∀ x ∈ C, 0 ≤ x ∧ x ≤ 2) := by simp [mLand, h1, h2, h3]
        rw [e]
        exact Ev.step (fun k => by simp [spec_IsLand.j0]) (specLand_loop W H C hC)
      · have hb : ((C.length : Int) != W * H) = true := by simp [h3]
        simp only [hb]
        exact hno (by simp [mLand, h3])
    · simp only [decide_eq_false h2, Bool.false_eq_true, if_false]
      refine hno ?_
      cases h : mLand W H C with
      | false => rfl
      | true => exact absurd (mLand_iff.1 h).2.1 h2
  · simp only [decide_eq_false h1, Bool.false_eq_true, if_false]
    refine hno ?_
    cases h : mLand W H C with
    | false => rfl
    | true => exact absurd (mLand_iff.1 h).1 h1
theorem specCell_ev (W H : Int) (C : List Int) (n : Int) (hC : C.length ≤ 4611686018427387904) : Ev (fun k => spec_IsCell.f k W H C n) (mCell W H C n) := by
  unfold spec_IsCell.f
  refine Ev.bind (specLand_ev W H C hC) ?_
  unfold mCell
  cases mLand W H C with
  | false => simp only [Bool.false_eq_true, if_false, Bool.false_and]; exact Ev.now _
  | true =>
    simp only [if_true, l1In_eq, Option.bind_some, wrap_id (n := (C.length : Int) - 1) (by omega) (by omega), Bool.true_and]
    exact Ev.now _
theorem specOpen_ev (W H : Int) (C : List Int) (n : Int) (hC : C.length ≤ 4611686018427387904) : Ev (fun k => spec_IsOpen.f k W H C n) (mOpen W H C n) := by
  unfold spec_IsOpen.f
  refine Ev.bind (specCell_ev W H C n hC) ?_
  unfold mOpen
  cases h : mCell W H C n with
  | false => simp only [Bool.false_eq_true, if_false, Bool.false_and]; exact Ev.now _
  | true =>
    obtain ⟨_, h0, h1⟩ := mCell_iff.1 h
    simp only [if_true, if_pos h0, if_pos h1, Bool.true_and]
    exact Ev.now _
/-! ### What lies beside a cell -/
theorem oct {W : Int} (h : 1 ≤ W ∧ W ≤ 8) : W = 1 ∨ W = 2 ∨ W = 3 ∨ W = 4 ∨ W = 5 ∨ W = 6 ∨ W = 7 ∨ W = 8 := by omega
theorem dm {W a : Int} (h : 1 ≤ W ∧ W ≤ 8) (h0 : 0 ≤ a) (h1 : a < 64) : 0 ≤ Int.tmod a W ∧ Int.tmod a W < W ∧ 0 ≤ Int.tdiv a W ∧ Int.tdiv a W ≤ 63 := by
  rw [Int.tmod_eq_emod_of_nonneg h0, Int.tdiv_eq_ediv_of_nonneg h0]
  rcases oct h with rfl | rfl | rfl | rfl | rfl | rfl | rfl | rfl <;> omega
theorem last_row {W H n : Int} {L : Int} (hW : 1 ≤ W ∧ W ≤ 8) (hH : 1 ≤ H ∧ H ≤ 8) (hL : L = W * H) (h0 : 0 ≤ n) (h1 : n < L) (h : Int.tmod n W < W - 1) : n + 1 < L := by
  rw [Int.tmod_eq_emod_of_nonneg h0] at h
  subst hL
  rcases oct hW with rfl | rfl | rfl | rfl | rfl | rfl | rfl | rfl <;> omega
def mNear (W : Int) (C : List Int) (n : Int) : List Int := (if W ≤ n ∧ rd C (n - W) ≠ 2 then [n - W] else []) ++ ((if Int.tmod n W > 0 ∧ rd C (n - 1) ≠ 2 then [n - 1] else []) ++ ((if Int.tmod n W < W - 1 ∧ rd C (n + 1) ≠ 2 then [n + 1] else []) ++ (if n + W < (C.length : Int) ∧ rd C (n + W) ≠ 2 then [n + W] else [])))
theorem near_mem {W : Int} {C : List Int} {n c : Int} : c ∈ mNear W C n ↔ (W ≤ n ∧ c = n - W ∧ rd C c ≠ 2) ∨ (Int.tmod n W > 0 ∧ c = n - 1 ∧ rd C c ≠ 2) ∨ (Int.tmod n W < W - 1 ∧ c = n + 1 ∧ rd C c ≠ 2) ∨ (n + W < (C.length : Int) ∧ c = n + W ∧ rd C c ≠ 2) := by
  have one : ∀ (p : Prop) [Decidable p] (e : Int), c ∈ (if p ∧ rd C e ≠ 2 then [e] else []) ↔ p ∧ c = e ∧ rd C c ≠ 2 := fun p _ e => by
    by_cases h : p ∧ rd C e ≠ 2
    · rw [if_pos h, List.mem_singleton]
      constructor
      · intro hc; subst hc; exact ⟨h.1, rfl, h.2⟩
      · exact fun hc => hc.2.1
    · rw [if_neg h]
      constructor
      · intro hc; simp at hc
      · rintro ⟨h1, rfl, h2⟩; exact absurd ⟨h1, h2⟩ h
  unfold mNear
  rw [List.mem_append, List.mem_append, List.mem_append, one, one, one, one]
theorem near_in {W H : Int} {C : List Int} {n c : Int} (h : mCell W H C n = true) (hc : c ∈ mNear W C n) : 0 ≤ c ∧ c < (C.length : Int) ∧ rd C c ≠ 2 := by
  obtain ⟨hL, h0, h1⟩ := mCell_iff.1 h
  obtain ⟨hW, hH, hlen, _⟩ := mLand_iff.1 hL
  have h64 := mLand_len hL
  rcases near_mem.1 hc with ⟨a1, rfl, a3⟩ | ⟨a1, rfl, a3⟩ | ⟨a1, rfl, a3⟩ | ⟨a1, rfl, a3⟩
  · exact ⟨by omega, by omega, a3⟩
  · have : 0 < n := by
      rcases (show 0 < n ∨ n ≤ 0 by omega) with h' | h'
      · exact h'
      · have : n = 0 := by omega
        subst this
        simp at a1
    exact ⟨by omega, by omega, a3⟩
  · exact ⟨by omega, last_row hW hH hlen h0 h1 a1, a3⟩
  · exact ⟨by omega, a1, a3⟩
theorem specNear_ev (W H : Int) (C : List Int) (n : Int) (h : mCell W H C n = true) : Ev (fun k => spec_l4Near.f k W H C n) (mNear W C n) := by
  obtain ⟨hL, h0, h1⟩ := mCell_iff.1 h
  obtain ⟨hW, hH, hlen, _⟩ := mLand_iff.1 hL
  have h64 := mLand_len hL
  have hd := dm hW h0 (by omega)
  have wU : wrap64 (n - W) = n - W := wrap_id (by omega) (by omega)
  have wL : wrap64 (n - 1) = n - 1 := wrap_id (by omega) (by omega)
  have wR : wrap64 (n + 1) = n + 1 := wrap_id (by omega) (by omega)
  have wD : wrap64 (n + W) = n + W := wrap_id (by omega) (by omega)
  have wW : wrap64 (W - 1) = W - 1 := wrap_id (by omega) (by omega)
  have fin : ∀ (o : List Int), o.length ≤ 3 → (if n + W < (C.length : Int) then (if 0 ≤ n + W then (if rd C (n + W) = 2 then some o else if o.length < 17592186044416 then some (o ++ [n + W]) else none) else none) else some o) = some (o ++ (if n + W < (C.length : Int) ∧ rd C (n + W) ≠ 2 then [n + W] else [])) := fun o ho => by
    by_cases c1 : n + W < (C.length : Int)
    · rw [if_pos c1, if_pos (by omega)]
      by_cases c2 : rd C (n + W) = 2
      · rw [if_pos c2, if_neg (fun h => h.2 c2), List.append_nil]
      · rw [if_neg c2, if_pos (by omega), if_pos ⟨c1, c2⟩]
    · rw [if_neg c1, if_neg (fun h => c1 h.1), List.append_nil]
  have s4 : ∀ (o : List Int) (b : Bool), o.length ≤ 2 → Ev (fun k => spec_l4Near.j4 k n o b W H C) (o ++ ((if b = true then [n + 1] else []) ++ (if n + W < (C.length : Int) ∧ rd C (n + W) ≠ 2 then [n + W] else []))) := fun o b ho => by
    refine Ev.step (f := fun _ => some (o ++ ((if b = true then [n + 1] else []) ++ (if n + W < (C.length : Int) ∧ rd C (n + W) ≠ 2 then [n + W] else [])))) (fun k => ?_) (Ev.now _)
    simp only [spec_l4Near.j4, wR, wD]
    cases b with
    | true =>
      simp only [if_true, if_pos (show o.length < 17592186044416 from by omega), Option.bind_some]
      rw [fin _ (by simp; omega), List.append_assoc]
    | false =>
      simp only [Bool.false_eq_true, if_false]
      rw [fin o (by omega), List.nil_append]
  have s3 : ∀ (o : List Int), o.length ≤ 2 → Ev (fun k => spec_l4Near.j3 k n o W H C) (o ++ ((if Int.tmod n W < W - 1 ∧ rd C (n + 1) ≠ 2 then [n + 1] else []) ++ (if n + W < (C.length : Int) ∧ rd C (n + W) ≠ 2 then [n + W] else []))) := fun o ho => by
    by_cases c : Int.tmod n W < W - 1
    · have hn1 := last_row hW hH hlen h0 h1 c
      have := s4 o (rd C (n + 1) != 2) ho
      simp only [c, true_and]
      refine Ev.step (fun k => ?_) (by simpa using this)
      simp only [spec_l4Near.j3, wR, wW]
      rw [if_neg (by omega), if_pos c, if_pos (by omega), if_pos hn1]
    · have := s4 o false ho
      simp only [c, false_and]
      refine Ev.step (fun k => ?_) (by simpa using this)
      simp only [spec_l4Near.j3, wR, wW]
      rw [if_neg (by omega), if_neg c]
  have s2 : ∀ (o : List Int) (b : Bool), o.length ≤ 1 → Ev (fun k => spec_l4Near.j2 k n o b W H C) (o ++ ((if b = true then [n - 1] else []) ++ ((if Int.tmod n W < W - 1 ∧ rd C (n + 1) ≠ 2 then [n + 1] else []) ++ (if n + W < (C.length : Int) ∧ rd C (n + W) ≠ 2 then [n + W] else [])))) := fun o b ho => by
    cases b with
    | true =>
      have := s3 (o ++ [n - 1]) (by simp; omega)
      refine Ev.step (fun k => ?_) (by simpa using this)
      simp only [spec_l4Near.j2, wL, if_true, if_pos (show o.length < 17592186044416 from by omega)]
    | false =>
      have := s3 o (by omega)
      refine Ev.step (fun k => ?_) (by simpa using this)
      simp [spec_l4Near.j2]
  have s1 : ∀ (o : List Int), o.length ≤ 1 → Ev (fun k => spec_l4Near.j1 k n o W H C) (o ++ ((if Int.tmod n W > 0 ∧ rd C (n - 1) ≠ 2 then [n - 1] else []) ++ ((if Int.tmod n W < W - 1 ∧ rd C (n + 1) ≠ 2 then [n + 1] else []) ++ (if n + W < (C.length : Int) ∧ rd C (n + W) ≠ 2 then [n + W] else [])))) := fun o ho => by
    by_cases c : Int.tmod n W > 0
    · have hn : 0 ≤ n - 1 := by
        rcases (show 0 < n ∨ n ≤ 0 by omega) with h' | h'
        · omega
        · have : n = 0 := by omega
          subst this
          simp at c
      have := s2 o (rd C (n - 1) != 2) ho
      simp only [c, true_and]
      refine Ev.step (fun k => ?_) (by simpa using this)
      simp only [spec_l4Near.j1, wL]
      rw [if_neg (by omega), if_pos c, if_pos hn, if_pos (by omega)]
    · have := s2 o false ho
      simp only [c, false_and]
      refine Ev.step (fun k => ?_) (by simpa using this)
      simp only [spec_l4Near.j1, wL]
      rw [if_neg (by omega), if_neg c]
  have s0 : ∀ (b : Bool), Ev (fun k => spec_l4Near.j0 k n [] b W H C) ((if b = true then [n - W] else []) ++ ((if Int.tmod n W > 0 ∧ rd C (n - 1) ≠ 2 then [n - 1] else []) ++ ((if Int.tmod n W < W - 1 ∧ rd C (n + 1) ≠ 2 then [n + 1] else []) ++ (if n + W < (C.length : Int) ∧ rd C (n + W) ≠ 2 then [n + W] else [])))) := fun b => by
    cases b with
    | true =>
      have := s1 [n - W] (by simp)
      refine Ev.step (fun k => ?_) (by simpa using this)
      simp [spec_l4Near.j0, wU]
    | false =>
      have := s1 [] (by simp)
      refine Ev.step (fun k => ?_) (by simpa using this)
      simp [spec_l4Near.j0]
  unfold spec_l4Near.f mNear
  simp only [Option.bind_some, wU]
  by_cases c : W ≤ n
  · have := s0 (rd C (n - W) != 2)
    simp only [c, true_and]
    refine Ev.congr (f := fun k => spec_l4Near.j0 k n [] (rd C (n - W) != 2) W H C) (fun k => ?_) (by simpa using this)
    have e1 : 0 ≤ n - W := by omega
    have e2 : n - W < (C.length : Int) := by omega
    simp only [ge_iff_le, c, e1, e2, if_true]
  · have := s0 false
    simp only [c, false_and]
    refine Ev.congr (f := fun k => spec_l4Near.j0 k n [] false W H C) (fun k => ?_) (by simpa using this)
    simp only [ge_iff_le, c, if_false]
/-! ### The search by breadth -/
def bfsIn (x : Int) : List Int → List Int → List Int → List Int × List Int
  | [], d, q => (d, q)
  | c :: t, d, q => if rd d c < 0 then bfsIn x t (d.set c.toNat (rd d x + 1)) (q ++ [c]) else bfsIn x t d q
def bfs (N : Int → List Int) : Nat → List Int → List Int → List Int
  | 0, d, _ => d
  | _ + 1, d, [] => d
  | m + 1, d, x :: t => bfs N m (bfsIn x (N x) d t).1 (bfsIn x (N x) d t).2
def neg (d : List Int) : Nat := d.countP (fun v => decide (v < 0))
theorem bfsIn_nil (x : Int) (d q : List Int) : bfsIn x [] d q = (d, q) := rfl
theorem bfsIn_cons (x c : Int) (t d q : List Int) : bfsIn x (c :: t) d q = if rd d c < 0 then bfsIn x t (d.set c.toNat (rd d x + 1)) (q ++ [c]) else bfsIn x t d q := rfl
theorem rd_set {d : List Int} {i j v : Int} (hi : 0 ≤ i) (hi' : i < (d.length : Int)) (hj : 0 ≤ j) : rd (d.set i.toNat v) j = if j = i then v else rd d j := by
  unfold rd
  rw [List.getD_eq_getElem?_getD, List.getElem?_set]
  by_cases h : j = i
  · subst h
    rw [if_pos rfl, if_pos (by omega), if_pos rfl]; rfl
  · rw [if_neg (by omega), if_neg h, List.getD_eq_getElem?_getD]
theorem rd_mem {d : List Int} {i : Int} (hi : 0 ≤ i) (hi' : i < (d.length : Int)) : rd d i ∈ d := by
  unfold rd
  rw [List.getD_eq_getElem?_getD, List.getElem?_eq_getElem (by omega), Option.getD_some]
  exact List.getElem_mem _
theorem neg_set : ∀ (d : List Int) (i : Nat) (v : Int), i < d.length → d.getD i 0 < 0 → 0 ≤ v → neg (d.set i v) + 1 = neg d
  | [], i, v, h, _, _ => by simp at h
  | a :: t, 0, v, h, ha, hv => by
    have ha' : a < 0 := by simpa using ha
    simp [neg, List.countP_cons, ha', Int.not_lt.2 hv]
  | a :: t, i + 1, v, h, ha, hv => by
    have ih := neg_set t i v (by simpa using h) (by simpa using ha) hv
    simp only [neg, List.set_cons_succ, List.countP_cons] at ih ⊢
    omega
/-- What holds of the days and of the cells that wait: b bounds the days. -/
def Inv (b : Int) (d q : List Int) : Prop := (∀ v ∈ d, v ≤ b) ∧ 0 ≤ b ∧ ∀ x ∈ q, 0 ≤ x ∧ x < (d.length : Int) ∧ 0 ≤ rd d x
theorem bfsIn_ok (x : Int) (b : Int) : ∀ (t d q : List Int), Inv (b + 1) d q → 0 ≤ x → x < (d.length : Int) → 0 ≤ rd d x → rd d x ≤ b → (∀ c ∈ t, 0 ≤ c ∧ c < (d.length : Int)) →
    Inv (b + 1) (bfsIn x t d q).1 (bfsIn x t d q).2 ∧ (bfsIn x t d q).1.length = d.length ∧ neg (bfsIn x t d q).1 + (bfsIn x t d q).2.length = neg d + q.length
  | [], d, q, h, _, _, _, _, _ => ⟨h, rfl, rfl⟩
  | c :: t, d, q, h, h0, h1, h2, h3, hc => by
    rw [bfsIn_cons]
    obtain ⟨hc0, hc1⟩ := hc c (List.mem_cons_self ..)
    have ht := fun c' hc' => hc c' (List.mem_cons_of_mem _ hc')
    by_cases hn : rd d c < 0
    · rw [if_pos hn]
      obtain ⟨i1, i2, i3⟩ := h
      have hne : x ≠ c := fun e => by subst e; omega
      have hrx : rd (d.set c.toNat (rd d x + 1)) x = rd d x := by rw [rd_set hc0 hc1 h0, if_neg hne]
      have hI : Inv (b + 1) (d.set c.toNat (rd d x + 1)) (q ++ [c]) := by
        refine ⟨fun v hv => ?_, i2, fun y hy => ?_⟩
        · rcases List.mem_or_eq_of_mem_set hv with hv | hv
          · exact i1 v hv
          · omega
        · rw [List.length_set]
          rcases List.mem_append.1 hy with hy | hy
          · obtain ⟨j0, j1, j2⟩ := i3 y hy
            refine ⟨j0, j1, ?_⟩
            rw [rd_set hc0 hc1 j0]; split <;> omega
          · rw [List.mem_singleton] at hy
            subst hy
            refine ⟨hc0, hc1, ?_⟩
            rw [rd_set hc0 hc1 hc0, if_pos rfl]; omega
      have ih := bfsIn_ok x b t (d.set c.toNat (rd d x + 1)) (q ++ [c]) hI h0 (by rw [List.length_set]; exact h1) (by rw [hrx]; exact h2) (by rw [hrx]; exact h3) (fun c' hc' => by rw [List.length_set]; exact ht c' hc')
      refine ⟨ih.1, by rw [ih.2.1, List.length_set], ?_⟩
      have hns := neg_set d c.toNat (rd d x + 1) (by omega) hn (by omega)
      rw [ih.2.2, List.length_append, List.length_singleton]
      omega
    · rw [if_neg hn]
      exact bfsIn_ok x b t d q h h0 h1 h2 h3 ht
def mFrom (W : Int) (C : List Int) (a : Int) : List Int := bfs (mNear W C) C.length ((List.replicate C.length (-1)).set a.toNat 0) [a]
def mDays (W H : Int) (C : List Int) (a b : Int) : Int := if mOpen W H C a && mOpen W H C b then rd (mFrom W C a) b else -1
theorem neg_rep : ∀ n : Nat, neg (List.replicate n (-1)) = n
  | 0 => rfl
  | n + 1 => by
    have := neg_rep n
    simp only [neg, List.replicate_succ, List.countP_cons] at this ⊢
    rw [this]; rfl
theorem start_ok {C : List Int} {a : Int} (h0 : 0 ≤ a) (h1 : a < (C.length : Int)) : Inv 0 ((List.replicate C.length (-1)).set a.toNat 0) [a] ∧ neg ((List.replicate C.length (-1)).set a.toNat 0) + [a].length = C.length ∧ ((List.replicate C.length (-1)).set a.toNat 0).length = C.length := by
  have hr : (List.replicate C.length (-1 : Int)).getD a.toNat 0 = -1 := by
    rw [List.getD_eq_getElem?_getD, List.getElem?_eq_getElem (by simp; omega)]; simp
  have hs := neg_set (List.replicate C.length (-1)) a.toNat 0 (by simp; omega) (by rw [hr]; decide) (by decide)
  rw [neg_rep] at hs
  refine ⟨⟨fun v hv => ?_, Int.le_refl _, fun x hx => ?_⟩, by simpa using hs, by simp⟩
  · rcases List.mem_or_eq_of_mem_set hv with hv | hv
    · have := (List.mem_replicate.1 hv).2; omega
    · omega
  · rw [List.mem_singleton] at hx
    subst hx
    refine ⟨h0, by simpa using h1, ?_⟩
    rw [rd_set h0 (by simpa using h1) h0, if_pos rfl]; exact Int.le_refl _
theorem bfs_len (N : Int → List Int) (n : Nat) (hN : ∀ x, 0 ≤ x → x < (n : Int) → ∀ c ∈ N x, 0 ≤ c ∧ c < (n : Int)) : ∀ (m : Nat) (b : Int) (d q : List Int), Inv b d q → d.length = n → (bfs N m d q).length = n
  | 0, b, d, q, _, h => h
  | m + 1, b, d, [], _, h => h
  | m + 1, b, d, x :: t, hI, h => by
    obtain ⟨j0, j1, j2⟩ := hI.2.2 x (List.mem_cons_self ..)
    have hI' : Inv (b + 1) d t := ⟨fun v hv => by have := hI.1 v hv; omega, by have := hI.2.1; omega, fun y hy => hI.2.2 y (List.mem_cons_of_mem _ hy)⟩
    have := bfsIn_ok x b (N x) d t hI' j0 j1 j2 (hI.1 _ (rd_mem j0 j1)) (fun c hc => by rw [h]; exact hN x j0 (by rw [← h]; exact j1) c hc)
    exact bfs_len N n hN m (b + 1) _ _ this.1 (by rw [this.2.1, h])
theorem mFrom_len {W H : Int} {C : List Int} {a : Int} (h : mOpen W H C a = true) : (mFrom W C a).length = C.length := by
  obtain ⟨hcell, _⟩ := mOpen_iff.1 h
  obtain ⟨hL, h0, h1⟩ := mCell_iff.1 hcell
  obtain ⟨hI, hn, hl⟩ := start_ok (C := C) h0 h1
  exact bfs_len (mNear W C) C.length (fun x hx0 hx1 c hc => by have := near_in (mCell_iff.2 ⟨hL, hx0, hx1⟩) hc; omega) C.length 0 _ _ hI hl
/-! ### What the search by breadth leaves: each day has a day before it, and beside a cell that was reached all is reached within a day -/
def BI (N : Int → List Int) (n : Nat) (b : Int) (d : List Int) : Prop := d.length = n ∧ ∀ x, 0 ≤ x → x < (n : Int) → 0 ≤ rd d x → x = b ∨ ∃ p, 0 ≤ p ∧ p < (n : Int) ∧ rd d p = rd d x - 1 ∧ 0 ≤ rd d p ∧ x ∈ N p
def Done (N : Int → List Int) (d : List Int) (y : Int) : Prop := ∀ c ∈ N y, 0 ≤ rd d c ∧ rd d c ≤ rd d y + 1
structure St (N : Int → List Int) (n : Nat) (b L : Int) (ex : Int → Prop) (d q1 q2 : List Int) : Prop where
  bi : BI N n b d
  L0 : 0 ≤ L
  r1 : ∀ y ∈ q1, 0 ≤ y ∧ y < (n : Int) ∧ rd d y = L
  r2 : ∀ y ∈ q2, 0 ≤ y ∧ y < (n : Int) ∧ rd d y = L + 1
  top : ∀ y, 0 ≤ y → y < (n : Int) → rd d y ≤ L + 1
  dn : ∀ y, 0 ≤ y → y < (n : Int) → 0 ≤ rd d y → ex y ∨ y ∈ q1 ++ q2 ∨ Done N d y
theorem in_fin (N : Int → List Int) (n : Nat) (b L x : Int) (hN : ∀ y, 0 ≤ y → y < (n : Int) → ∀ c ∈ N y, 0 ≤ c ∧ c < (n : Int)) (hx0 : 0 ≤ x) (hx1 : x < (n : Int)) : ∀ (t d q1 q2 : List Int), St N n b L (fun y => y = x) d q1 q2 → rd d x = L → (∀ c ∈ t, c ∈ N x) →
    ∃ q2', (bfsIn x t d (q1 ++ q2)).2 = q1 ++ q2' ∧ St N n b L (fun y => y = x) (bfsIn x t d (q1 ++ q2)).1 q1 q2' ∧ rd (bfsIn x t d (q1 ++ q2)).1 x = L ∧ (∀ c ∈ t, 0 ≤ rd (bfsIn x t d (q1 ++ q2)).1 c) ∧ (∀ y, 0 ≤ y → y < (n : Int) → 0 ≤ rd d y → rd (bfsIn x t d (q1 ++ q2)).1 y = rd d y)
  | [], d, q1, q2, h, hx, _ => ⟨q2, rfl, h, hx, by simp, fun _ _ _ _ => rfl⟩
  | c :: t, d, q1, q2, h, hx, ht => by
    rw [bfsIn_cons]
    have hcN := ht c (List.mem_cons_self ..)
    obtain ⟨hc0, hc1⟩ := hN x hx0 hx1 c hcN
    have hl := h.bi.1
    have hL0 := h.L0
    by_cases hn : rd d c < 0
    · rw [if_pos hn]
      have hs : ∀ y, 0 ≤ y → rd (d.set c.toNat (rd d x + 1)) y = if y = c then rd d x + 1 else rd d y := fun y hy => rd_set hc0 (by rw [hl]; exact hc1) hy
      have hkeep : ∀ y, 0 ≤ y → 0 ≤ rd d y → rd (d.set c.toNat (rd d x + 1)) y = rd d y := fun y hy h0 => by
        rw [hs y hy, if_neg]
        intro e; subst e; omega
      have hxx : rd (d.set c.toNat (rd d x + 1)) x = L := by rw [hkeep x hx0 (by omega), hx]
      have hcc : rd (d.set c.toNat (rd d x + 1)) c = L + 1 := by rw [hs c hc0, if_pos rfl, hx]
      have hS : St N n b L (fun y => y = x) (d.set c.toNat (rd d x + 1)) q1 (q2 ++ [c]) := by
        refine ⟨⟨by rw [List.length_set, hl], fun y hy0 hy1 hyv => ?_⟩, hL0, fun y hy => ?_, fun y hy => ?_, fun y hy0 hy1 => ?_, fun y hy0 hy1 hyv => ?_⟩
        · by_cases hyc : y = c
          · subst hyc
            exact .inr ⟨x, hx0, hx1, by rw [hxx, hcc]; omega, by rw [hxx]; exact hL0, hcN⟩
          · rw [hs y hy0, if_neg hyc] at hyv ⊢
            rcases h.bi.2 y hy0 hy1 hyv with e | ⟨p, p0, p1, p2, p3, p4⟩
            · exact .inl e
            · exact .inr ⟨p, p0, p1, by rw [hkeep p p0 p3]; exact p2, by rw [hkeep p p0 p3]; exact p3, p4⟩
        · obtain ⟨a1, a2, a3⟩ := h.r1 y hy
          exact ⟨a1, a2, by rw [hkeep y a1 (by omega)]; exact a3⟩
        · rcases List.mem_append.1 hy with hy | hy
          · obtain ⟨a1, a2, a3⟩ := h.r2 y hy
            exact ⟨a1, a2, by rw [hkeep y a1 (by omega)]; exact a3⟩
          · rw [List.mem_singleton] at hy
            subst hy
            exact ⟨hc0, hc1, hcc⟩
        · have := h.top y hy0 hy1
          rw [hs y hy0]; split <;> omega
        · by_cases hyc : y = c
          · exact .inr (.inl (by simp [hyc]))
          · rw [hs y hy0, if_neg hyc] at hyv
            rcases h.dn y hy0 hy1 hyv with e | e | e
            · exact .inl e
            · refine .inr (.inl ?_)
              rw [← List.append_assoc]
              exact List.mem_append.2 (.inl e)
            · refine .inr (.inr (fun c' hc' => ?_))
              obtain ⟨e0, e1⟩ := e c' hc'
              obtain ⟨g0, g1⟩ := hN y hy0 hy1 c' hc'
              rw [hkeep c' g0 e0, hkeep y hy0 hyv]
              exact ⟨e0, e1⟩
      obtain ⟨q2', e1, e2, e3, e4, e5⟩ := in_fin N n b L x hN hx0 hx1 t _ q1 (q2 ++ [c]) hS hxx (fun c' hc' => ht c' (List.mem_cons_of_mem _ hc'))
      rw [List.append_assoc]
      refine ⟨q2', e1, e2, e3, fun c' hc' => ?_, fun y hy0 hy1 hyv => ?_⟩
      · rcases List.mem_cons.1 hc' with e | e
        · rw [e, e5 c hc0 hc1 (by rw [hcc]; omega), hcc]; omega
        · exact e4 c' e
      · rw [e5 y hy0 hy1 (by rw [hkeep y hy0 hyv]; exact hyv), hkeep y hy0 hyv]
    · rw [if_neg hn]
      obtain ⟨q2', e1, e2, e3, e4, e5⟩ := in_fin N n b L x hN hx0 hx1 t d q1 q2 h hx (fun c' hc' => ht c' (List.mem_cons_of_mem _ hc'))
      refine ⟨q2', e1, e2, e3, fun c' hc' => ?_, e5⟩
      rcases List.mem_cons.1 hc' with e | e
      · rw [e, e5 c hc0 hc1 (by omega)]; omega
      · exact e4 c' e
theorem rd_ge {d : List Int} {v : Int} (hv : v ∈ d) : ∃ y, 0 ≤ y ∧ y < (d.length : Int) ∧ rd d y = v := by
  obtain ⟨i, hi, e⟩ := List.mem_iff_getElem.1 hv
  refine ⟨(i : Int), by omega, by omega, ?_⟩
  unfold rd
  rw [Int.toNat_natCast, List.getD_eq_getElem?_getD, List.getElem?_eq_getElem hi, Option.getD_some, e]
theorem bfs_fin (N : Int → List Int) (n : Nat) (b : Int) (hN : ∀ y, 0 ≤ y → y < (n : Int) → ∀ c ∈ N y, 0 ≤ c ∧ c < (n : Int)) : ∀ (m : Nat) (L : Int) (d q1 q2 : List Int), St N n b L (fun _ => False) d q1 q2 → neg d + (q1 ++ q2).length ≤ m →
    BI N n b (bfs N m d (q1 ++ q2)) ∧ (∀ y, 0 ≤ y → y < (n : Int) → 0 ≤ rd (bfs N m d (q1 ++ q2)) y → Done N (bfs N m d (q1 ++ q2)) y) ∧ (∀ y, 0 ≤ y → y < (n : Int) → 0 ≤ rd d y → rd (bfs N m d (q1 ++ q2)) y = rd d y) := by
  intro m
  induction m with
  | zero =>
    intro L d q1 q2 h hm
    have hq : q1 ++ q2 = [] := List.eq_nil_of_length_eq_zero (by omega)
    rw [hq]
    refine ⟨h.bi, fun y hy0 hy1 hyv => ?_, fun _ _ _ _ => rfl⟩
    rcases h.dn y hy0 hy1 hyv with e | e | e
    · exact e.elim
    · rw [hq] at e; simp at e
    · exact e
  | succ m ih =>
    have step : ∀ (L x : Int) (d q1 q2 : List Int), St N n b L (fun _ => False) d (x :: q1) q2 → neg d + ((x :: q1) ++ q2).length ≤ m + 1 → BI N n b (bfs N (m + 1) d ((x :: q1) ++ q2)) ∧ (∀ y, 0 ≤ y → y < (n : Int) → 0 ≤ rd (bfs N (m + 1) d ((x :: q1) ++ q2)) y → Done N (bfs N (m + 1) d ((x :: q1) ++ q2)) y) ∧ (∀ y, 0 ≤ y → y < (n : Int) → 0 ≤ rd d y → rd (bfs N (m + 1) d ((x :: q1) ++ q2)) y = rd d y) := by
      intro L x d q1 q2 h hm
      obtain ⟨hx0, hx1, hx⟩ := h.r1 x (List.mem_cons_self ..)
      have hl := h.bi.1
      have hL0 := h.L0
      have hS : St N n b L (fun y => y = x) d q1 q2 := by
        refine ⟨h.bi, h.L0, fun y hy => h.r1 y (List.mem_cons_of_mem _ hy), h.r2, h.top, fun y hy0 hy1 hyv => ?_⟩
        rcases h.dn y hy0 hy1 hyv with e | e | e
        · exact e.elim
        · rw [List.cons_append] at e
          rcases List.mem_cons.1 e with e | e
          · exact .inl e
          · exact .inr (.inl e)
        · exact .inr (.inr e)
      obtain ⟨q2', e1, e2, e3, e4, e5⟩ := in_fin N n b L x hN hx0 hx1 (N x) d q1 q2 hS hx (fun _ hc => hc)
      have hInv : Inv (L + 1) d (q1 ++ q2) := by
        refine ⟨fun v hv => ?_, by omega, fun y hy => ?_⟩
        · obtain ⟨y, y0, y1, ye⟩ := rd_ge hv
          have := h.top y y0 (by omega)
          omega
        · rcases List.mem_append.1 hy with hy | hy
          · have := h.r1 y (List.mem_cons_of_mem _ hy); omega
          · have := h.r2 y hy; omega
      have hok := bfsIn_ok x L (N x) d (q1 ++ q2) hInv hx0 (by omega) (by omega) (by omega) (fun c hc => by rw [hl]; exact hN x hx0 hx1 c hc)
      have hS' : St N n b L (fun _ => False) (bfsIn x (N x) d (q1 ++ q2)).1 q1 q2' := by
        refine ⟨e2.bi, e2.L0, e2.r1, e2.r2, e2.top, fun y hy0 hy1 hyv => ?_⟩
        rcases e2.dn y hy0 hy1 hyv with e | e | e
        · refine .inr (.inr ?_)
          rw [e]
          intro c hc
          obtain ⟨g0, g1⟩ := hN x hx0 hx1 c hc
          have := e2.top c g0 g1
          exact ⟨e4 c hc, by rw [e3]; exact this⟩
        · exact .inr (.inl e)
        · exact .inr (.inr e)
      simp only [List.cons_append, List.length_cons] at hm
      have := ih L _ q1 q2' hS' (by rw [← e1, hok.2.2]; omega)
      rw [← e1] at this
      refine ⟨this.1, this.2.1, fun y hy0 hy1 hyv => ?_⟩
      have e5' := e5 y hy0 hy1 hyv
      exact (this.2.2 y hy0 hy1 (by rw [e5']; exact hyv)).trans e5'
    intro L d q1 q2 h hm
    cases q1 with
    | cons x q1 => exact step L x d q1 q2 h hm
    | nil =>
      cases q2 with
      | nil =>
        refine ⟨h.bi, fun y hy0 hy1 hyv => ?_, fun _ _ _ _ => rfl⟩
        rcases h.dn y hy0 hy1 hyv with e | e | e
        · exact e.elim
        · simp at e
        · exact e
      | cons x q2 =>
        have hL0 := h.L0
        have := step (L + 1) x d q2 [] ⟨h.bi, by omega, h.r2, fun y hy => by simp at hy, fun y y0 y1 => by have := h.top y y0 y1; omega, fun y y0 y1 yv => by have := h.dn y y0 y1 yv; simpa using this⟩ (by simpa using hm)
        simpa using this
theorem from_fin {W H : Int} {C : List Int} {b : Int} (h : mOpen W H C b = true) :
    BI (mNear W C) C.length b (mFrom W C b) ∧ (∀ y, 0 ≤ y → y < (C.length : Int) → 0 ≤ rd (mFrom W C b) y → Done (mNear W C) (mFrom W C b) y) ∧ rd (mFrom W C b) b = 0 := by
  obtain ⟨hcell, _⟩ := mOpen_iff.1 h
  obtain ⟨hL, h0, h1⟩ := mCell_iff.1 hcell
  obtain ⟨_, hn, hl⟩ := start_ok (C := C) h0 h1
  have hrep : ∀ y, 0 ≤ y → y < (C.length : Int) → rd (List.replicate C.length (-1)) y = -1 := fun y y0 y1 => by
    unfold rd
    rw [List.getD_eq_getElem?_getD, List.getElem?_eq_getElem (by simp; omega)]; simp
  have hs : ∀ y, 0 ≤ y → y < (C.length : Int) → rd ((List.replicate C.length (-1)).set b.toNat 0) y = if y = b then 0 else -1 := fun y y0 y1 => by
    rw [rd_set h0 (by simpa using h1) y0, hrep y y0 y1]
  have hb : rd ((List.replicate C.length (-1)).set b.toNat 0) b = 0 := by rw [hs b h0 h1, if_pos rfl]
  have hS : St (mNear W C) C.length b 0 (fun _ => False) ((List.replicate C.length (-1)).set b.toNat 0) [b] [] := by
    refine ⟨⟨hl, fun y y0 y1 yv => ?_⟩, Int.le_refl _, fun y hy => ?_, fun y hy => by simp at hy, fun y y0 y1 => ?_, fun y y0 y1 yv => ?_⟩
    · rw [hs y y0 y1] at yv
      by_cases e : y = b
      · exact .inl e
      · rw [if_neg e] at yv; omega
    · rw [List.mem_singleton] at hy
      subst hy
      exact ⟨h0, h1, hb⟩
    · rw [hs y y0 y1]; split <;> omega
    · rw [hs y y0 y1] at yv
      by_cases e : y = b
      · exact .inr (.inl (by simp [e]))
      · rw [if_neg e] at yv; omega
  have := bfs_fin (mNear W C) C.length b (fun y y0 y1 c hc => by have := near_in (mCell_iff.2 ⟨hL, y0, y1⟩) hc; omega) C.length 0 _ [b] [] hS (by rw [List.append_nil]; omega)
  rw [List.append_nil] at this
  exact ⟨this.1, this.2.1, by rw [← hb]; exact this.2.2 b h0 h1 (by rw [hb]; exact Int.le_refl _)⟩
theorem near_sym {W H : Int} {C : List Int} {n c : Int} (h : mOpen W H C n = true) (hc : c ∈ mNear W C n) : n ∈ mNear W C c ∧ mOpen W H C c = true := by
  obtain ⟨hcell, hn2⟩ := mOpen_iff.1 h
  obtain ⟨hL, h0, h1⟩ := mCell_iff.1 hcell
  obtain ⟨hW, hH, hlen, _⟩ := mLand_iff.1 hL
  have h64 := mLand_len hL
  obtain ⟨c0, c1, c2⟩ := near_in hcell hc
  refine ⟨?_, mOpen_iff.2 ⟨mCell_iff.2 ⟨hL, c0, c1⟩, c2⟩⟩
  rw [near_mem] at hc ⊢
  rcases hc with ⟨a1, rfl, a3⟩ | ⟨a1, rfl, a3⟩ | ⟨a1, rfl, a3⟩ | ⟨a1, rfl, a3⟩
  · exact .inr (.inr (.inr ⟨by omega, by omega, hn2⟩))
  · refine .inr (.inr (.inl ⟨?_, by omega, hn2⟩))
    rw [Int.tmod_eq_emod_of_nonneg h0] at a1
    rw [Int.tmod_eq_emod_of_nonneg c0]
    rcases oct hW with rfl | rfl | rfl | rfl | rfl | rfl | rfl | rfl <;> omega
  · refine .inr (.inl ⟨?_, by omega, hn2⟩)
    rw [Int.tmod_eq_emod_of_nonneg h0] at a1
    rw [Int.tmod_eq_emod_of_nonneg c0]
    rcases oct hW with rfl | rfl | rfl | rfl | rfl | rfl | rfl | rfl <;> omega
  · exact .inl ⟨by omega, by omega, hn2⟩
/-- Beside a cell that was reached: all are reached, none is more than a day nearer, and (but at the base) one is a day nearer. -/
theorem near_days {W H : Int} {C : List Int} {b x : Int} (hb : mOpen W H C b = true) (hx : mOpen W H C x = true) (hr : 0 ≤ rd (mFrom W C b) x) :
    (∀ c ∈ mNear W C x, 0 ≤ rd (mFrom W C b) c ∧ rd (mFrom W C b) x - 1 ≤ rd (mFrom W C b) c) ∧ (x ≠ b → ∃ c ∈ mNear W C x, rd (mFrom W C b) c = rd (mFrom W C b) x - 1) := by
  obtain ⟨hbi, hdn, h0⟩ := from_fin hb
  obtain ⟨hcell, _⟩ := mOpen_iff.1 hx
  obtain ⟨hL, x0, x1⟩ := mCell_iff.1 hcell
  constructor
  · intro c hc
    obtain ⟨e0, e1⟩ := hdn x x0 x1 hr c hc
    obtain ⟨hs, hco⟩ := near_sym hx hc
    obtain ⟨hcc, _⟩ := mOpen_iff.1 hco
    obtain ⟨_, c0, c1⟩ := mCell_iff.1 hcc
    have := hdn c c0 c1 e0 x hs
    exact ⟨e0, by omega⟩
  · intro hne
    rcases hbi.2 x x0 x1 hr with e | ⟨p, p0, p1, p2, p3, p4⟩
    · exact absurd e hne
    · have hpc : mCell W H C p = true := mCell_iff.2 ⟨hL, p0, p1⟩
      have hpo : mOpen W H C p = true := by
        rcases hbi.2 p p0 p1 p3 with e | ⟨p', p0', p1', _, _, p4'⟩
        · rw [e]; exact hb
        · exact mOpen_iff.2 ⟨hpc, (near_in (mCell_iff.2 ⟨hL, p0', p1'⟩) p4').2.2⟩
      exact ⟨p, (near_sym hpo p4).1, p2⟩
theorem zero_base {W H : Int} {C : List Int} {b x : Int} (hb : mOpen W H C b = true) (x0 : 0 ≤ x) (x1 : x < (C.length : Int)) (hr : rd (mFrom W C b) x = 0) : x = b := by
  rcases (from_fin hb).1.2 x x0 x1 (by omega) with e | ⟨p, _, _, p2, p3, _⟩
  · exact e
  · omega
theorem specIn_ev (W H : Int) (C : List Int) (x b : Int) (hb : b ≤ 1152921504606846976) (ns : List Int) (hns : ns.length ≤ 4611686018427387904) (pre : List Int) (R : List Int → List Int → List Int) (B : Nat) (hB : B + pre.length ≤ 1099511627776) : ∀ (t e d q : List Int), ns = e ++ t → Inv (b + 1) d q → 0 ≤ x → x < (d.length : Int) → 0 ≤ rd d x → rd d x ≤ b → (∀ c ∈ t, 0 ≤ c ∧ c < (d.length : Int)) → neg d + q.length ≤ B →
    Ev (fun k => spec_l5From.l1 k (bfsIn x t d q).1 (pre ++ x :: (bfsIn x t d q).2) ((pre.length : Int) + 1) W H C) (R (bfsIn x t d q).1 (bfsIn x t d q).2) →
    Ev (fun k => spec_l5From.l2 k d (pre ++ x :: q) (pre.length : Int) ns (e.length : Int) W H C) (R (bfsIn x t d q).1 (bfsIn x t d q).2)
  | [], e, d, q, h, _, _, _, _, _, _, _, hR => by
    have hlen : ns.length = e.length := by rw [h]; simp
    refine Ev.step (fun k => ?_) hR
    simp only [spec_l5From.l2, bfsIn_nil, wrapi pre.length (by omega)]
    rw [if_neg (by omega)]
  | c :: t, e, d, q, h, hI, h0, h1, h2, h3, hc, hq, hR => by
    have hlen : ns.length = e.length + (t.length + 1) := by rw [h]; simp
    have hy : ns[e.length]? = some c := by rw [h]; simp
    have hr : rd ns (e.length : Int) = c := getD_of 0 hy
    have hx : rd (pre ++ x :: q) (pre.length : Int) = x := getD_of 0 (by simp)
    obtain ⟨hc0, hc1⟩ := hc c (List.mem_cons_self ..)
    have hw : wrap64 (rd d x + 1) = rd d x + 1 := wrap_id (by omega) (by omega)
    have hsnoc : ns = (e ++ [c]) ++ t := by rw [h]; simp
    have hlen1 : ((e ++ [c]).length : Int) = (e.length : Int) + 1 := by simp
    have hqq : (pre ++ x :: q).length = pre.length + (q.length + 1) := by simp
    by_cases hn : rd d c < 0
    · rw [bfsIn_cons, if_pos hn] at hR ⊢
      have hok := bfsIn_ok x b [c] d q hI h0 h1 h2 h3 (fun c' hc' => hc c' (by rw [List.mem_singleton] at hc'; rw [hc']; exact List.mem_cons_self ..))
      rw [bfsIn_cons, if_pos hn, bfsIn_nil] at hok
      have hne : x ≠ c := fun e => by subst e; omega
      have hrx : rd (d.set c.toNat (rd d x + 1)) x = rd d x := by rw [rd_set hc0 hc1 h0, if_neg hne]
      have ih := specIn_ev W H C x b hb ns hns pre R B hB t (e ++ [c]) (d.set c.toNat (rd d x + 1)) (q ++ [c]) hsnoc hok.1 h0 (by rw [List.length_set]; exact h1) (by rw [hrx]; exact h2) (by rw [hrx]; exact h3) (fun c' hc' => by rw [List.length_set]; exact hc c' (List.mem_cons_of_mem _ hc')) (by rw [hok.2.2]; exact hq) hR
      rw [hlen1] at ih
      refine Ev.step (fun k => ?_) ih
      simp only [spec_l5From.l2, hr, hx, hw, wrapi e.length (by omega)]
      rw [if_pos (by omega), if_pos (by omega), if_pos hc0, if_pos hc1, if_pos hn, if_pos (by omega), if_pos (by omega), if_pos h0, if_pos h1, if_pos (by omega), List.append_assoc, List.cons_append]
    · rw [bfsIn_cons, if_neg hn] at hR ⊢
      have ih := specIn_ev W H C x b hb ns hns pre R B hB t (e ++ [c]) d q hsnoc hI h0 h1 h2 h3 (fun c' hc' => hc c' (List.mem_cons_of_mem _ hc')) hq hR
      rw [hlen1] at ih
      refine Ev.step (fun k => ?_) ih
      simp only [spec_l5From.l2, hr, wrapi e.length (by omega)]
      rw [if_pos (by omega), if_pos (by omega), if_pos hc0, if_pos hc1, if_neg hn]
theorem specNear_len (W : Int) (C : List Int) (x : Int) : (mNear W C x).length ≤ 4 := by
  unfold mNear
  repeat' split
  all_goals simp
theorem specBfs_ev (W H : Int) (C : List Int) (hL : mLand W H C = true) : ∀ (m : Nat) (b : Int) (pre d q : List Int), b + m ≤ 1152921504606846976 → m + pre.length ≤ 1099511627776 → Inv b d q → d.length = C.length → neg d + q.length ≤ m → Ev (fun k => spec_l5From.l1 k d (pre ++ q) (pre.length : Int) W H C) (bfs (mNear W C) m d q)
  | 0, b, pre, d, q, _, _, hI, _, h => by
    have hq : q = [] := List.eq_nil_of_length_eq_zero (by omega)
    subst hq
    refine Ev.step (f := fun _ => some d) (fun k => ?_) (Ev.now _)
    simp [spec_l5From.l1]
  | m + 1, b, pre, d, [], _, _, hI, _, h => by
    refine Ev.step (f := fun _ => some d) (fun k => ?_) (Ev.now _)
    simp [spec_l5From.l1]
  | m + 1, b, pre, d, x :: t, hb, hm, hI, hd, h => by
    obtain ⟨j0, j1, j2⟩ := hI.2.2 x (List.mem_cons_self ..)
    have hcell : mCell W H C x = true := mCell_iff.2 ⟨hL, j0, by omega⟩
    have hI' : Inv (b + 1) d t := ⟨fun v hv => by have := hI.1 v hv; omega, by have := hI.2.1; omega, fun y hy => hI.2.2 y (List.mem_cons_of_mem _ hy)⟩
    have hN : ∀ c ∈ mNear W C x, 0 ≤ c ∧ c < (d.length : Int) := fun c hc => by
      have := near_in hcell hc
      omega
    have hok := bfsIn_ok x b (mNear W C x) d t hI' j0 j1 j2 (hI.1 _ (rd_mem j0 j1)) hN
    have h64 := mLand_len hL
    rw [List.length_cons] at h
    have ih := specBfs_ev W H C hL m (b + 1) (pre ++ [x]) _ _ (by omega) (by simp; omega) hok.1 (by rw [hok.2.1, hd]) (by rw [hok.2.2]; omega)
    rw [List.append_assoc, List.singleton_append, List.length_append, List.length_singleton, show ((pre.length + 1 : Nat) : Int) = (pre.length : Int) + 1 from by omega] at ih
    have hin := specIn_ev W H C x b (by omega) (mNear W C x) (by have := specNear_len W C x; omega) pre (fun d q => bfs (mNear W C) m d q) m (by omega) (mNear W C x) [] d t rfl hI' j0 j1 j2 (hI.1 _ (rd_mem j0 j1)) hN (by omega) ih
    refine Ev.step (f := fun k => (spec_l4Near.f k W H C x).bind fun t231 => spec_l5From.l2 k d (pre ++ x :: t) (pre.length : Int) t231 0 W H C) (fun k => ?_) ?_
    · have hrx : rd (pre ++ x :: t) (pre.length : Int) = x := getD_of 0 (by simp)
      simp only [spec_l5From.l1, hrx]
      rw [if_pos (by simp; omega), if_pos (by omega)]
    · refine Ev.bind (specNear_ev W H C x hcell) ?_
      exact hin
theorem specFrom_ev (W H : Int) (C : List Int) (a : Int) (h : mOpen W H C a = true) : Ev (fun k => spec_l5From.f k W H C a) (mFrom W C a) := by
  obtain ⟨hcell, _⟩ := mOpen_iff.1 h
  obtain ⟨hL, h0, h1⟩ := mCell_iff.1 hcell
  have h64 := mLand_len hL
  obtain ⟨hI, hn, hl⟩ := start_ok (C := C) h0 h1
  have hbfs := specBfs_ev W H C hL C.length 0 [] _ _ (by omega) (by simp; omega) hI hl (by omega)
  unfold spec_l5From.f
  have key : ∀ (n i : Nat), i + n = C.length → Ev (fun k => spec_l5From.l0 k a (List.replicate i (-1)) (i : Int) W H C) (mFrom W C a) := by
    intro n
    induction n with
    | zero =>
      intro i hi
      obtain rfl : i = C.length := by omega
      refine Ev.step (fun k => ?_) hbfs
      simp only [spec_l5From.l0]
      rw [if_neg (by omega), if_pos h0, if_pos (by simpa using h1)]
      rfl
    | succ n ih =>
      intro i hi
      have := ih (i + 1) (by omega)
      rw [show ((i + 1 : Nat) : Int) = (i : Int) + 1 from by omega] at this
      refine Ev.step (fun k => ?_) this
      simp only [spec_l5From.l0, wrapi i (by omega)]
      rw [if_pos (by omega), if_pos (by simp; omega), List.replicate_succ']
  exact key C.length 0 (by omega)
def ruleOk (m w : Int) : Prop := (1 ≤ w ∧ w ≤ 10) ∧ (0 ≤ m ∧ m ≤ w - 1)
instance (m w : Int) : Decidable (ruleOk m w) := by unfold ruleOk; infer_instance
theorem specRule_eq (m w : Int) : spec_IsRule.f m w = some (decide (ruleOk m w)) := by
  simp only [spec_IsRule.f, l1In_eq, Option.bind_some, decide_eq_true_eq]
  by_cases h : 1 ≤ w ∧ w ≤ 10
  · rw [if_pos h, wrap_id (by omega) (by omega)]
    congr 1
    exact decide_eq_decide.2 ⟨fun q => ⟨h, q⟩, fun q => q.2⟩
  · rw [if_neg h, decide_eq_false (fun q : ruleOk m w => h q.1)]
theorem implRule_eq (m w : Int) : impl_IsRule.f m w = some (decide (ruleOk m w)) := by
  simp only [impl_IsRule.f, InRange_eq, Option.bind_some, decide_eq_true_eq]
  by_cases h : 1 ≤ w ∧ w ≤ 10
  · rw [if_pos h, wrap_id (by omega) (by omega)]
    congr 1
    exact decide_eq_decide.2 ⟨fun q => ⟨h, q⟩, fun q => q.2⟩
  · rw [if_neg h, decide_eq_false (fun q : ruleOk m w => h q.1)]
def cnt (l : List Bool) : Int := ((l.filter id).length : Int)
def stepCS : Nat → Int → Bool → Int ⊕ Int := fun _ s x => .inr (if x = true then wrap64 (s + 1) else s)
theorem runCS : ∀ (l : List Bool) (i : Nat) (s : Int), 0 ≤ s → s + l.length ≤ 4611686018427387904 → run stepCS id i s l = s + cnt l
  | [], i, s, _, _ => by simp [run, cnt]
  | x :: t, i, s, h0, h1 => by
    rw [List.length_cons] at h1
    cases x with
    | true =>
      rw [run_inr (s' := s + 1) (by show Sum.inr (if true = true then wrap64 (s + 1) else s) = _; rw [if_pos rfl, wrap_id (by omega) (by omega)]), runCS t (i + 1) (s + 1) (by omega) (by omega)]
      simp only [cnt, List.filter_cons, id, if_true, List.length_cons]
      omega
    | false =>
      rw [run_inr (s' := s) rfl, runCS t (i + 1) s h0 (by omega)]
      rfl
theorem specCS_at (l : List Bool) (hl : l.length ≤ 2097152) : ∀ k, l.length < k → spec_CountStorms.f k l = some (cnt l) := by
  have h := at_loop0 (fun k s i => spec_CountStorms.l0 k l s i) l stepCS id (by omega) 0
    (fun k s => by simp only [spec_CountStorms.l0]; rw [if_neg (by omega)]; rfl)
    (fun k s i x hx hw => by
      have hi := lt_of_get hx
      have hr : rdOf false l (i : Int) = x := getD_of false hx
      simp only [spec_CountStorms.l0, hr, hw]; rw [if_pos (by omega), if_pos (by omega)]
      simp only [stepCS, Sum.elim_inr]; split <;> rfl)
  rw [runCS l 0 0 (by omega) (by omega), Int.zero_add] at h
  exact h
theorem implCS_at (l : List Bool) (hl : l.length ≤ 2097152) : ∀ k, l.length < k → impl_CountStorms.f k l = some (cnt l) := by
  have h := at_loop0 (fun k s i => impl_CountStorms.l0 k s l (l.length : Int) i) l stepCS id (by omega) 0
    (fun k s => by simp only [impl_CountStorms.l0]; rw [if_neg (by omega)]; rfl)
    (fun k s i x hx hw => by
      have hi := lt_of_get hx
      have hr : rdOf false l (i : Int) = x := getD_of false hx
      simp only [impl_CountStorms.l0, hr, hw]; rw [if_pos (by omega), if_pos (by omega), if_pos (by omega)]
      simp only [stepCS, Sum.elim_inr]; split <;> rfl)
  rw [runCS l 0 0 (by omega) (by omega), Int.zero_add] at h
  exact h
def lastN (n : Nat) (l : List Bool) : List Bool := l.drop (l.length - n)
theorem lastN_len (n : Nat) (l : List Bool) : (lastN n l).length ≤ n ∧ (lastN n l).length ≤ l.length := by
  unfold lastN
  rw [List.length_drop]
  omega
theorem lastN_snoc (n : Nat) (l : List Bool) (b : Bool) : lastN (n + 1) (l ++ [b]) = lastN n l ++ [b] := by
  unfold lastN
  rw [List.length_append, List.length_singleton, show l.length + 1 - (n + 1) = l.length - n from by omega, List.drop_append_of_le_length (by omega)]
theorem lastN_lastN (m n : Nat) (l : List Bool) (h : m ≤ n) : lastN m (lastN n l) = lastN m l := by
  unfold lastN
  rw [List.length_drop, List.drop_drop]
  congr 1
  omega
theorem implLast_eq (l : List Bool) (n : Nat) (hl : l.length ≤ 2097153) (hn : n ≤ 1000) : impl_last.f l (n : Int) = some (lastN n l) := by
  unfold impl_last.f
  rw [wrap_id (by omega) (by omega)]
  have e : mx ((l.length : Int) - (n : Int)) 0 = ((l.length - n : Nat) : Int) := by
    unfold mx
    split <;> omega
  rw [e, if_pos (by omega), if_pos (by omega), Int.toNat_natCast]
  rfl
def may (m w : Int) (l : List Bool) : Bool := decide (ruleOk m w ∧ cnt (lastN (w - 1).toNat l) < m)
theorem specMay_at (m w : Int) (l : List Bool) (hl : l.length ≤ 2097152) : ∀ k, l.length < k → spec_MayStorm.f k m w l = some (may m w l) := by
  intro k hk
  simp only [spec_MayStorm.f, specRule_eq, Option.bind_some, decide_eq_true_eq, may]
  by_cases h : ruleOk m w
  · have hw := h.1
    rw [if_pos h, wrap_id (n := (l.length : Int) + 1) (by omega) (by omega), wrap_id (by omega) (by omega)]
    have e : spec_Max.f 0 ((l.length : Int) + 1 - w) = some ((l.length - (w - 1).toNat : Nat) : Int) := by
      unfold spec_Max.f
      by_cases c : (l.length : Int) + 1 - w > 0
      · rw [if_pos c]
        congr 1
        omega
      · rw [if_neg c]
        congr 1
        omega
    rw [e]
    simp only [Option.bind_some, Int.toNat_natCast]
    rw [if_pos (by omega), if_pos (by omega), specCS_at _ (by rw [List.length_drop]; omega) k (by rw [List.length_drop]; omega)]
    simp only [Option.bind_some]
    congr 1
    exact decide_eq_decide.2 ⟨fun q => ⟨h, q⟩, fun q => q.2⟩
  · rw [if_neg h, decide_eq_false (fun q : ruleOk m w ∧ _ => h q.1)]
theorem implMay_at (m w : Int) (l : List Bool) (hl : l.length ≤ 2097152) : ∀ k, l.length < k → impl_MayStorm.f k m w l = some (may m w l) := by
  intro k hk
  simp only [impl_MayStorm.f, implRule_eq, Option.bind_some, decide_eq_true_eq, may]
  by_cases h : ruleOk m w
  · have hw := h.1
    have e : w - 1 = ((w - 1).toNat : Int) := by omega
    have hlen := lastN_len (w - 1).toNat l
    rw [if_pos h, wrap_id (by omega) (by omega), e, implLast_eq l _ (by omega) (by omega)]
    simp only [Option.bind_some, Int.toNat_natCast]
    rw [implCS_at _ (by omega) k (by omega)]
    simp only [Option.bind_some]
    congr 1
    exact decide_eq_decide.2 ⟨fun q => ⟨h, q⟩, fun q => q.2⟩
  · rw [if_neg h, decide_eq_false (fun q : ruleOk m w ∧ _ => h q.1)]
theorem implDay_eq (l : List Bool) (b : Bool) (hl : l.length ≤ 2097152) : impl_AddDay.f l b = some (lastN 10 (l ++ [b])) := by
  have h1 : ([] : List Bool).length + l.length < 140737488355328 := by simp; omega
  have h2 : l.length < 140737488355328 := by omega
  have h3 : ([] : List Bool).length + (lastN 10 (l ++ [b])).length < 140737488355328 := by
    have := (lastN_len 10 (l ++ [b])).1
    simp; omega
  have e := implLast_eq (l ++ [b]) 10 (by simp; omega) (by omega)
  simp only [impl_AddDay.f, Option.bind_some, h1, if_true, List.nil_append, h2, show impl_last.f (l ++ [b]) 10 = some (lastN 10 (l ++ [b])) from e, h3]
/-- Two pasts that are the same as far as a rule can see. -/
def Same (p q : List Bool) : Prop := lastN 10 p = lastN 10 q
theorem may_same {p q : List Bool} (m w : Int) (h : Same p q) : may m w p = may m w q := by
  unfold may
  by_cases r : ruleOk m w
  · have hw := r.1
    have e : lastN (w - 1).toNat p = lastN (w - 1).toNat q := by
      rw [← lastN_lastN (w - 1).toNat 10 p (by omega), ← lastN_lastN (w - 1).toNat 10 q (by omega), h]
    rw [e]
  · rw [decide_eq_false (fun q => r q.1), decide_eq_false (fun q => r q.1)]
theorem same_add {p q : List Bool} (b : Bool) (h : Same p q) : Same (p ++ [b]) (lastN 10 (q ++ [b])) := by
  unfold Same
  rw [lastN_lastN 10 10 _ (Nat.le_refl _), lastN_snoc 9, lastN_snoc 9, ← lastN_lastN 9 10 p (by omega), ← lastN_lastN 9 10 q (by omega), h]
theorem cnt_snoc (l : List Bool) : cnt (l ++ [true]) = cnt l + 1 := by
  unfold cnt
  simp
theorem cnt_nonneg (l : List Bool) : 0 ≤ cnt l := by
  unfold cnt
  omega
theorem cnt_tail (l : List Bool) : ∀ (j n : Nat), j ≤ n → (j : Int) ≤ cnt (lastN n (l ++ List.replicate j true))
  | 0, n, _ => cnt_nonneg _
  | j + 1, n, h => by
    obtain ⟨n, rfl⟩ : ∃ m, n = m + 1 := ⟨n - 1, by omega⟩
    rw [List.replicate_succ', ← List.append_assoc, lastN_snoc, cnt_snoc]
    have := cnt_tail l j n (by omega)
    omega
/-- After most storms in a row there is none more. -/
theorem may_end (m w : Int) (l : List Bool) (j : Nat) (hj : m ≤ j) : may m w (l ++ List.replicate j true) = false := by
  refine decide_eq_false (fun h => ?_)
  have hw := h.1
  obtain ⟨i, hi⟩ : ∃ i, j = i + m.toNat := ⟨j - m.toNat, by omega⟩
  have e : l ++ List.replicate j true = (l ++ List.replicate i true) ++ List.replicate m.toNat true := by rw [hi, ← List.replicate_append_replicate, List.append_assoc]
  have := cnt_tail (l ++ List.replicate i true) m.toNat (w - 1).toNat (by have := hw.1; have := hw.2; omega)
  rw [← e] at this
  have h2 := h.2
  have := hw.2
  omega
def okMember (l : List S112) (i : Nat) (x : S112) : Prop := (1 ≤ x.f0 ∧ x.f0 ≤ 99) ∧ (0 ≤ x.f1 ∧ x.f1 ≤ 100) ∧ (1 ≤ x.f2 ∧ x.f2 ≤ 10) ∧ (i = 0 ∨ (l.getD (i - 1) z112).f0 < x.f0)
instance (l : List S112) (i : Nat) (x : S112) : Decidable (okMember l i x) := by unfold okMember; infer_instance
def stepAC (l : List S112) : Nat → Unit → S112 → Bool ⊕ Unit := fun i _ x => if okMember l i x then .inr () else .inl false
def mAreCrew (l : List S112) : Bool := run (stepAC l) (fun _ => decide (1 ≤ (l.length : Int) ∧ (l.length : Int) ≤ 8)) 0 () l
theorem implAC_at (l : List S112) (hl : l.length ≤ 4611686018427387904) : ∀ k, l.length < k → impl_AreCrew.f k l = some (mAreCrew l) :=
  at_loop0 (fun k _ i => impl_AreCrew.l0 k l l (l.length : Int) i) l (stepAC l) _ hl ()
    (fun k s => by simp only [impl_AreCrew.l0]; rw [if_neg (by omega)]; simp only [InRange_eq, Option.bind_some])
    (fun k s i x hx hw => by
      have hi := lt_of_get hx
      have hr : rd_T112 l (i : Int) = x := getD_of z112 hx
      simp only [impl_AreCrew.l0, hr, hw, InRange_eq, Option.bind_some, decide_eq_true_eq]; rw [if_pos (by omega), if_pos (by omega), if_pos (by omega)]
      simp only [stepAC]
      by_cases c1 : 1 ≤ x.f0 ∧ x.f0 ≤ 99
      · rw [if_pos c1]
        rcases Nat.eq_zero_or_pos i with h0 | h0
        · subst h0
          rw [if_neg (by omega)]
          by_cases c2 : 0 ≤ x.f1 ∧ x.f1 ≤ 100
          · rw [if_pos c2]
            by_cases c3 : 1 ≤ x.f2 ∧ x.f2 ≤ 10
            · rw [if_pos c3, if_pos (show okMember l _ x from ⟨c1, c2, c3, .inl rfl⟩)]; rfl
            · rw [if_neg c3, if_neg (show ¬ okMember l _ x from fun h => c3 h.2.2.1)]; rfl
          · rw [if_neg c2, if_neg (show ¬ okMember l _ x from fun h => c2 h.2.1)]; rfl
        · have hr' : rd_T112 l ((i - 1 : Nat) : Int) = l.getD (i - 1) z112 := getD_nat ..
          rw [if_pos (by omega), wrapd i h0 (by omega), if_pos (by omega), if_pos (by omega), hr']
          by_cases c4 : (l.getD (i - 1) z112).f0 < x.f0
          · rw [if_neg (by omega)]
            by_cases c2 : 0 ≤ x.f1 ∧ x.f1 ≤ 100
            · rw [if_pos c2]
              by_cases c3 : 1 ≤ x.f2 ∧ x.f2 ≤ 10
              · rw [if_pos c3, if_pos (show okMember l _ x from ⟨c1, c2, c3, .inr c4⟩)]; rfl
              · rw [if_neg c3, if_neg (show ¬ okMember l _ x from fun h => c3 h.2.2.1)]; rfl
            · rw [if_neg c2, if_neg (show ¬ okMember l _ x from fun h => c2 h.2.1)]; rfl
          · rw [if_pos (by omega), if_neg (show ¬ okMember l _ x from fun h => h.2.2.2.elim (by omega) c4)]; rfl
      · rw [if_neg c1, if_neg (show ¬ okMember l _ x from fun h => c1 h.1)]; rfl)
/-- What a crew is, member by member. -/
theorem runAC_iff (l0 : List S112) (b : Bool) : ∀ (t d : List S112), l0 = d ++ t → (run (stepAC l0) (fun _ => b) d.length () t = true ↔ (∀ i x, d.length ≤ i → l0[i]? = some x → okMember l0 i x) ∧ b = true)
  | [], d, h => by
    rw [run_nil]
    refine ⟨fun hb => ⟨fun i x hi hx => ?_, hb⟩, fun hb => hb.2⟩
    have := lt_of_get hx
    rw [h] at this
    simp at this
    omega
  | x :: t, d, h => by
    have hx : l0[d.length]? = some x := by rw [h]; simp
    by_cases c : okMember l0 d.length x
    · rw [run_inr (show stepAC l0 d.length () x = .inr () from if_pos c)]
      have ih := runAC_iff l0 b t (d ++ [x]) (by rw [h]; simp)
      rw [List.length_append, List.length_singleton] at ih
      rw [ih]
      refine ⟨fun hb => ⟨fun i y hi hy => ?_, hb.2⟩, fun hb => ⟨fun i y hi hy => hb.1 i y (by omega) hy, hb.2⟩⟩
      rcases Nat.lt_or_ge d.length i with h1 | h1
      · exact hb.1 i y (by omega) hy
      · obtain rfl : i = d.length := by omega
        rw [hx] at hy
        injection hy with hy
        exact hy ▸ c
    · rw [run_inl (show stepAC l0 d.length () x = .inl false from if_neg c)]
      exact ⟨fun hb => (by cases hb), fun hb => absurd (hb.1 d.length x (Nat.le_refl _) hx) c⟩
theorem mAreCrew_iff (l : List S112) : mAreCrew l = true ↔ (∀ i x, l[i]? = some x → okMember l i x) ∧ 1 ≤ l.length ∧ l.length ≤ 8 := by
  have h := runAC_iff l (decide (1 ≤ (l.length : Int) ∧ (l.length : Int) ≤ 8)) l [] rfl
  unfold mAreCrew
  rw [List.length_nil] at h
  rw [h, decide_eq_true_eq]
  exact ⟨fun h => ⟨fun i x hx => h.1 i x (Nat.zero_le _) hx, by omega⟩, fun h => ⟨fun i x _ hx => h.1 i x hx, by omega⟩⟩
theorem crew_member {l : List S112} (h : mAreCrew l = true) {x : S112} (hx : x ∈ l) : (1 ≤ x.f0 ∧ x.f0 ≤ 99) ∧ (0 ≤ x.f1 ∧ x.f1 ≤ 100) ∧ (1 ≤ x.f2 ∧ x.f2 ≤ 10) := by
  obtain ⟨i, hi, he⟩ := List.getElem_of_mem hx
  have := ((mAreCrew_iff l).1 h).1 i x (by rw [List.getElem?_eq_getElem hi, he])
  exact ⟨this.1, this.2.1, this.2.2.1⟩
def needSum (l : List S112) : Int := l.foldl (fun s x => s + x.f2) 0
theorem foldNeed (l : List S112) : ∀ s : Int, l.foldl (fun s x => s + x.f2) s = s + needSum l := by
  unfold needSum
  induction l with
  | nil => intro s; simp
  | cons x t ih => intro s; simp only [List.foldl_cons]; rw [ih (s + x.f2), ih (0 + x.f2)]; omega
theorem needSum_le (l : List S112) (h : ∀ x ∈ l, 1 ≤ x.f2 ∧ x.f2 ≤ 10) : (l.length : Int) ≤ needSum l ∧ needSum l ≤ 10 * l.length := by
  induction l with
  | nil => simp [needSum]
  | cons x t ih =>
    have h1 := h x (by simp)
    have h2 := ih (fun y hy => h y (by simp [hy]))
    have h3 : needSum (x :: t) = x.f2 + needSum t := by
      unfold needSum
      rw [List.foldl_cons, foldNeed t (0 + x.f2)]
      show 0 + x.f2 + needSum t = x.f2 + needSum t
      omega
    rw [h3, List.length_cons]
    omega
def mNeedOf (l : List S112) : Int := if mAreCrew l = true then needSum l else 0
def stepNeed : Nat → Int → S112 → Int ⊕ Int := fun _ s x => .inr (wrap64 (s + x.f2))
theorem runNeed : ∀ (l : List S112) (i : Nat) (s : Int), (∀ x ∈ l, 1 ≤ x.f2 ∧ x.f2 ≤ 10) → 0 ≤ s → s + 10 * l.length ≤ 4611686018427387904 → run stepNeed id i s l = s + needSum l
  | [], i, s, _, _, _ => by simp [run, needSum]
  | x :: t, i, s, h, h0, h1 => by
    have hx := h x (by simp)
    rw [List.length_cons] at h1
    rw [run_inr (s' := s + x.f2) (by show Sum.inr (wrap64 (s + x.f2)) = _; rw [wrap_id (by omega) (by omega)]), runNeed t (i + 1) (s + x.f2) (fun y hy => h y (by simp [hy])) (by omega) (by omega)]
    unfold needSum
    rw [List.foldl_cons, foldNeed t (0 + x.f2)]
    show _ = s + (0 + x.f2 + needSum t)
    unfold needSum
    omega
theorem mNeedOf_range (l : List S112) : 0 ≤ mNeedOf l ∧ mNeedOf l ≤ 80 := by
  unfold mNeedOf
  split
  · rename_i h
    have h1 := needSum_le l (fun x hx => (crew_member h hx).2.2)
    have h2 := ((mAreCrew_iff l).1 h).2
    omega
  · omega
theorem mNeedOf_pos {l : List S112} (h : mAreCrew l = true) : 1 ≤ mNeedOf l := by
  unfold mNeedOf
  rw [if_pos h]
  have h1 := needSum_le l (fun x hx => (crew_member h hx).2.2)
  have h2 := ((mAreCrew_iff l).1 h).2
  omega
theorem implNeedOf_at (l : List S112) (hl : l.length ≤ 4611686018427387904) : ∀ k, l.length < k → impl_NeedOf.f k l = some (mNeedOf l) := by
  intro k hk
  simp only [impl_NeedOf.f, implAC_at l hl k hk, Option.bind_some, mNeedOf]
  cases hc : mAreCrew l with
  | false => simp
  | true =>
    simp only [if_true]
    have h := at_loop0 (fun k s i => impl_NeedOf.l0 k s l (l.length : Int) i) l stepNeed id hl 0
      (fun k s => by simp only [impl_NeedOf.l0]; rw [if_neg (by omega)]; rfl)
      (fun k s i x hx hw => by
        have hi := lt_of_get hx
        have hr : rd_T112 l (i : Int) = x := getD_of z112 hx
        simp only [impl_NeedOf.l0, hr, hw]; rw [if_pos (by omega), if_pos (by omega), if_pos (by omega)]
        rfl) k hk
    rw [h, runNeed l 0 0 (fun x hx => (crew_member hc hx).2.2) (by omega) (by have := ((mAreCrew_iff l).1 hc).2; omega), Int.zero_add]
def longest (m w : Int) : Nat → List Bool → Nat
  | 0, _ => 0
  | d + 1, l => if may m w l = true then longest m w d (l ++ [true]) + 1 else 0
theorem longest_le (m w : Int) : ∀ (d : Nat) (l : List Bool), longest m w d l ≤ d
  | 0, _ => Nat.le_refl _
  | d + 1, l => by
    have := longest_le m w d (l ++ [true])
    show (if may m w l = true then longest m w d (l ++ [true]) + 1 else 0) ≤ d + 1
    split <;> omega
theorem implLS_down (m w : Int) (past : List Bool) (hm20 : m.toNat ≤ 20) : ∀ (d j : Nat) (q : List Bool), m.toNat ≤ j + d → j + d ≤ 20 + m.toNat → Same (past ++ List.replicate j true) q → q.length ≤ 1048576 →
    Ev (fun k => impl_LongestStorm.l0 k q (j : Int) m w) ((j : Int) + longest m w d (past ++ List.replicate j true))
  | d, j, q, h, h2, hs, hq => by
    refine Ev.step (f := fun k => (impl_MayStorm.f k m w q).bind fun t163 => (if t163 = true then ((impl_AddDay.f q true).bind fun t164 => (impl_LongestStorm.l0 k t164 (wrap64 ((j : Int) + 1)) m w)) else (some (j : Int)))) (fun k => by simp only [impl_LongestStorm.l0]) ?_
    refine Ev.bind (ev_at (implMay_at m w q (by omega))) ?_
    rw [← may_same m w hs]
    match d, h, h2 with
    | 0, h, h2 =>
      simp only [may_end m w past j (by omega), Bool.false_eq_true, if_false]
      rw [show (j : Int) + ((longest m w 0 (past ++ List.replicate j true) : Nat) : Int) = (j : Int) from by show (j : Int) + ((0 : Nat) : Int) = _; omega]
      exact Ev.now _
    | d + 1, h, h2 =>
      have e : (past ++ List.replicate j true) ++ [true] = past ++ List.replicate (j + 1) true := by rw [List.replicate_succ', List.append_assoc]
      by_cases c : may m w (past ++ List.replicate j true) = true
      · have el : longest m w (d + 1) (past ++ List.replicate j true) = longest m w d (past ++ List.replicate (j + 1) true) + 1 := by
          show (if may m w (past ++ List.replicate j true) = true then _ else _) = _
          rw [if_pos c, e]
        have hs' := same_add true hs
        rw [e] at hs'
        have hl := (lastN_len 10 (q ++ [true])).1
        have ih := implLS_down m w past hm20 d (j + 1) (lastN 10 (q ++ [true])) (by omega) (by omega) hs' (by omega)
        simp only [if_pos c, implDay_eq q true (by omega), Option.bind_some, wrapi j (by omega)]
        rw [el, show (j : Int) + ((longest m w d (past ++ List.replicate (j + 1) true) + 1 : Nat) : Int) = ((j + 1 : Nat) : Int) + longest m w d (past ++ List.replicate (j + 1) true) from by omega]
        rw [Int.natCast_add, Int.natCast_one] at ih ⊢
        exact ih
      · have el : longest m w (d + 1) (past ++ List.replicate j true) = 0 := by
          show (if may m w (past ++ List.replicate j true) = true then _ else _) = _
          rw [if_neg c]
        simp only [if_neg c]
        rw [el, show (j : Int) + ((0 : Nat) : Int) = (j : Int) from by omega]
        exact Ev.now _
def mLongest (m w : Int) (l : List Bool) : Int := if ruleOk m w then (longest m w m.toNat l : Int) else 0
theorem implLS_ev (m w : Int) (l : List Bool) (hl : l.length ≤ 1048576) : Ev (fun k => impl_LongestStorm.f k m w l) (mLongest m w l) := by
  simp only [impl_LongestStorm.f]
  unfold mLongest
  by_cases r : ruleOk m w
  · have hw := r.1
    have hm := r.2
    rw [if_pos r]
    have := implLS_down m w l (by omega) m.toNat 0 l (by omega) (by omega) (by rw [List.replicate_zero, List.append_nil]; rfl) hl
    rw [List.replicate_zero, List.append_nil, show ((0 : Nat) : Int) + ((longest m w m.toNat l : Nat) : Int) = ((longest m w m.toNat l : Nat) : Int) from by omega] at this
    exact this
  · rw [if_neg r]
    have hm : may m w l = false := decide_eq_false (fun q => r q.1)
    refine Ev.step (f := fun k => (impl_MayStorm.f k m w l).bind fun t163 => (if t163 = true then ((impl_AddDay.f l true).bind fun t164 => (impl_LongestStorm.l0 k t164 (wrap64 (0 + 1)) m w)) else (some 0))) (fun k => by simp only [impl_LongestStorm.l0]) ?_
    refine Ev.bind (ev_at (implMay_at m w l (by omega))) ?_
    simp only [hm, Bool.false_eq_true, if_false]
    exact Ev.now _
def cw (m w : Int) : Nat → List Bool → Int
  | 0, _ => 1
  | n + 1, l => cw m w n (l ++ [false]) + (if may m w l = true then cw m w n (l ++ [true]) else 0)
theorem cw_range (m w : Int) : ∀ (n : Nat) (l : List Bool), 1 ≤ cw m w n l ∧ cw m w n l ≤ ((2 ^ n : Nat) : Int)
  | 0, _ => by simp [cw]
  | n + 1, l => by
    have h1 := cw_range m w n (l ++ [false])
    have h2 := cw_range m w n (l ++ [true])
    have e : ((2 ^ (n + 1) : Nat) : Int) = 2 * ((2 ^ n : Nat) : Int) := by rw [Nat.pow_succ]; omega
    rw [e]
    show 1 ≤ cw m w n (l ++ [false]) + (if may m w l = true then cw m w n (l ++ [true]) else 0) ∧ _
    generalize ((2 ^ n : Nat) : Int) = p at h1 h2
    show 1 ≤ cw m w n (l ++ [false]) + (if may m w l = true then cw m w n (l ++ [true]) else 0) ∧ cw m w n (l ++ [false]) + (if may m w l = true then cw m w n (l ++ [true]) else 0) ≤ 2 * p
    split <;> omega
theorem cw_small (m w : Int) (n : Nat) (l : List Bool) (h : n ≤ 10) : 1 ≤ cw m w n l ∧ cw m w n l ≤ 1024 := by
  have h1 := cw_range m w n l
  have : 2 ^ n ≤ 2 ^ 10 := Nat.pow_le_pow_right (by decide) h
  omega
theorem implCW_down (m w : Int) (r : ruleOk m w) : ∀ (n : Nat) (l q : List Bool), n ≤ 10 → Same l q → q.length ≤ 1048576 → Ev (fun k => impl_CountWeathers.f k m w q (n : Int)) (cw m w n l)
  | n, l, q, hn, hs, hq => by
    refine Ev.step (f := fun k => impl_CountWeathers.j0 k q (n : Int) false m w) (fun k => ?_) ?_
    · simp only [impl_CountWeathers.f, implRule_eq, Option.bind_some, InRange_eq, decide_eq_true r, if_true, decide_eq_true (show 0 ≤ (n : Int) ∧ (n : Int) ≤ 10 from by omega), Bool.not_true]
    match n, hn with
    | 0, hn =>
      refine Ev.step (f := fun _ => some 1) (fun k => ?_) (Ev.now _)
      simp [impl_CountWeathers.j0]
    | n + 1, hn =>
      have hw1 : wrap64 (((n + 1 : Nat) : Int) - 1) = (n : Int) := by rw [wrap_id (by omega) (by omega)]; omega
      refine Ev.step (f := fun k => (impl_CountWeathers.f k m w (lastN 10 (q ++ [false])) (n : Int)).bind fun t135 => ((impl_MayStorm.f k m w q).bind fun t136 => (if t136 = true then ((impl_CountWeathers.f k m w (lastN 10 (q ++ [true])) (n : Int)).bind fun t149 => (some (wrap64 (t135 + t149)))) else (some t135)))) (fun k => ?_) ?_
      · simp only [impl_CountWeathers.j0, Bool.false_eq_true, if_false, Option.bind_some, implDay_eq q false (by omega), implDay_eq q true (by omega), hw1]
        rw [if_neg (by omega)]
      have l1 := (lastN_len 10 (q ++ [false])).1
      have l2 := (lastN_len 10 (q ++ [true])).1
      have i1 := implCW_down m w r n (l ++ [false]) (lastN 10 (q ++ [false])) (by omega) (same_add false hs) (by omega)
      have i2 := implCW_down m w r n (l ++ [true]) (lastN 10 (q ++ [true])) (by omega) (same_add true hs) (by omega)
      refine Ev.bind i1 ?_
      refine Ev.bind (ev_at (implMay_at m w q (by omega))) ?_
      rw [← may_same m w hs]
      have b1 := cw_small m w n (l ++ [false]) (by omega)
      have b2 := cw_small m w n (l ++ [true]) (by omega)
      by_cases c : may m w l = true
      · simp only [if_pos c]
        refine Ev.bind i2 ?_
        rw [wrap_id (by omega) (by omega), show cw m w (n + 1) l = cw m w n (l ++ [false]) + cw m w n (l ++ [true]) from by show _ + (if may m w l = true then _ else _) = _; rw [if_pos c]]
        exact Ev.now _
      · simp only [if_neg c]
        rw [show cw m w (n + 1) l = cw m w n (l ++ [false]) from by show _ + (if may m w l = true then _ else _) = _; rw [if_neg c]; omega]
        exact Ev.now _
def mWeathers (m w : Int) (l : List Bool) (n : Int) : Int := if ruleOk m w ∧ 0 ≤ n ∧ n ≤ 10 then cw m w n.toNat l else 0
theorem implCW_ev (m w : Int) (l : List Bool) (n : Int) (hl : l.length ≤ 1048576) : Ev (fun k => impl_CountWeathers.f k m w l n) (mWeathers m w l n) := by
  unfold mWeathers
  by_cases h : ruleOk m w ∧ 0 ≤ n ∧ n ≤ 10
  · rw [if_pos h]
    have := implCW_down m w h.1 n.toNat l l (by omega) rfl (by omega)
    rw [show ((n.toNat : Nat) : Int) = n from by omega] at this
    exact this
  · rw [if_neg h]
    have hb : Ev (fun k => impl_CountWeathers.j0 k l n true m w) 0 := Ev.step (f := fun _ => some 0) (fun k => by simp [impl_CountWeathers.j0]) (Ev.now _)
    refine Ev.step (fun k => ?_) hb
    simp only [impl_CountWeathers.f, implRule_eq, Option.bind_some, InRange_eq]
    by_cases r : ruleOk m w
    · rw [if_pos (decide_eq_true r), decide_eq_false (fun q => h ⟨r, q⟩)]
      rfl
    · rw [if_neg (by rw [decide_eq_true_eq]; exact r)]
def sdIn (F : List Bool → Int) (m w : Int) : Nat → List Bool → Int
  | 0, l => 1 + F (l ++ [false])
  | d + 1, l => if may m w l = true then mx (1 + F (l ++ [false])) (1 + sdIn F m w d (l ++ [true])) else 1 + F (l ++ [false])
def sd (m w : Int) : Nat → List Bool → Int
  | 0, _ => 0
  | n + 1, l => sdIn (sd m w n) m w m.toNat l
theorem sdIn_range (F : List Bool → Int) (m w B : Int) (hF : ∀ l, 0 ≤ F l ∧ F l ≤ B) : ∀ (d : Nat) (l : List Bool), 0 ≤ sdIn F m w d l ∧ sdIn F m w d l ≤ B + d + 1
  | 0, l => by
    have := hF (l ++ [false])
    show 0 ≤ 1 + F (l ++ [false]) ∧ 1 + F (l ++ [false]) ≤ B + ((0 : Nat) : Int) + 1
    omega
  | d + 1, l => by
    have h1 := hF (l ++ [false])
    have h2 := sdIn_range F m w B hF d (l ++ [true])
    show 0 ≤ (if may m w l = true then mx (1 + F (l ++ [false])) (1 + sdIn F m w d (l ++ [true])) else 1 + F (l ++ [false])) ∧ (if may m w l = true then mx (1 + F (l ++ [false])) (1 + sdIn F m w d (l ++ [true])) else 1 + F (l ++ [false])) ≤ B + ((d + 1 : Nat) : Int) + 1
    unfold mx
    split
    · split <;> omega
    · omega
theorem sd_range (m w : Int) (hm : m ≤ 9) : ∀ (n : Nat) (l : List Bool), 0 ≤ sd m w n l ∧ sd m w n l ≤ 11 * n
  | 0, _ => ⟨Int.le_refl _, Int.le_refl _⟩
  | n + 1, l => by
    have := sdIn_range (sd m w n) m w (11 * n) (sd_range m w hm n) m.toNat l
    show 0 ≤ sdIn (sd m w n) m w m.toNat l ∧ sdIn (sd m w n) m w m.toNat l ≤ 11 * ((n + 1 : Nat) : Int)
    omega
theorem specMax_mx (a b : Int) : spec_Max.f a b = some (mx a b) := by
  unfold spec_Max.f mx
  by_cases h : b > a
  · rw [if_pos h, if_pos (by omega)]
  · rw [if_neg h, if_neg (by omega)]
theorem implSD_in (m w : Int) (r : ruleOk m w) (n : Nat) (hn : n ≤ 2) (past : List Bool)
    (hF : ∀ l q, Same l q → q.length ≤ 1048576 → Ev (fun k => impl_SlowestDays.f k m w q (n : Int)) (sd m w n l)) : ∀ (d j : Nat) (q : List Bool), m.toNat ≤ j + d → j + d ≤ 10 + m.toNat → Same (past ++ List.replicate j true) q → q.length ≤ 1048576 →
    Ev (fun k => impl_SlowestDays.f k m w q ((n + 1 : Nat) : Int)) (sdIn (sd m w n) m w d (past ++ List.replicate j true))
  | d, j, q, h, h2, hs, hq => by
    have hw9 := r.1
    have hm9 := r.2
    have e : (past ++ List.replicate j true) ++ [true] = past ++ List.replicate (j + 1) true := by rw [List.replicate_succ', List.append_assoc]
    generalize hl : past ++ List.replicate j true = l at hs e
    have hw1 : wrap64 (((n + 1 : Nat) : Int) - 1) = (n : Int) := by rw [wrap_id (by omega) (by omega)]; omega
    refine Ev.step (f := fun k => impl_SlowestDays.j0 k q ((n + 1 : Nat) : Int) false m w) (fun k => ?_) ?_
    · simp only [impl_SlowestDays.f, implRule_eq, Option.bind_some, InRange_eq, decide_eq_true r, if_true, decide_eq_true (show 0 ≤ ((n + 1 : Nat) : Int) ∧ ((n + 1 : Nat) : Int) ≤ 3 from by omega), Bool.not_true]
    refine Ev.step (f := fun k => (impl_SlowestDays.f k m w (lastN 10 (q ++ [false])) (n : Int)).bind fun t192 => ((impl_MayStorm.f k m w q).bind fun t193 => (if t193 = true then ((impl_SlowestDays.f k m w (lastN 10 (q ++ [true])) ((n + 1 : Nat) : Int)).bind fun t197 => (some (mx (wrap64 (1 + t192)) (wrap64 (1 + t197))))) else (some (wrap64 (1 + t192)))))) (fun k => ?_) ?_
    · simp only [impl_SlowestDays.j0, Bool.false_eq_true, if_false, Option.bind_some, implDay_eq q false (by omega), implDay_eq q true (by omega), hw1]
      rw [if_neg (by omega)]
    have l1 := (lastN_len 10 (q ++ [false])).1
    have l2 := (lastN_len 10 (q ++ [true])).1
    refine Ev.bind (hF (l ++ [false]) (lastN 10 (q ++ [false])) (same_add false hs) (by omega)) ?_
    refine Ev.bind (ev_at (implMay_at m w q (by omega))) ?_
    rw [← may_same m w hs]
    have b1 := sd_range m w (by omega) n (l ++ [false])
    have w1 : wrap64 (1 + sd m w n (l ++ [false])) = 1 + sd m w n (l ++ [false]) := wrap_id (by omega) (by omega)
    match d, h, h2 with
    | 0, h, h2 =>
      have hmay : may m w l = false := by rw [← hl]; exact may_end m w past j (by omega)
      simp only [hmay, Bool.false_eq_true, if_false, w1]
      exact Ev.now _
    | d + 1, h, h2 =>
      by_cases c : may m w l = true
      · have hs' := same_add true hs
        rw [e] at hs'
        have ih := implSD_in m w r n hn past hF d (j + 1) (lastN 10 (q ++ [true])) (by omega) (by omega) hs' (by omega)
        rw [← e] at ih
        have b2 := sdIn_range (sd m w n) m w (11 * n) (sd_range m w (by omega) n) d (l ++ [true])
        simp only [if_pos c]
        refine Ev.bind ih ?_
        rw [w1, wrap_id (n := 1 + sdIn (sd m w n) m w d (l ++ [true])) (by omega) (by omega), show sdIn (sd m w n) m w (d + 1) l = mx (1 + sd m w n (l ++ [false])) (1 + sdIn (sd m w n) m w d (l ++ [true])) from by show (if may m w l = true then _ else _) = _; rw [if_pos c]]
        exact Ev.now _
      · simp only [if_neg c, w1]
        rw [show sdIn (sd m w n) m w (d + 1) l = 1 + sd m w n (l ++ [false]) from by show (if may m w l = true then _ else _) = _; rw [if_neg c]]
        exact Ev.now _
theorem implSD_down (m w : Int) (r : ruleOk m w) : ∀ (n : Nat) (l q : List Bool), n ≤ 3 → Same l q → q.length ≤ 1048576 → Ev (fun k => impl_SlowestDays.f k m w q (n : Int)) (sd m w n l)
  | 0, l, q, _, _, _ => by
    refine Ev.step (f := fun k => impl_SlowestDays.j0 k q 0 false m w) (fun k => ?_) (Ev.step (f := fun _ => some 0) (fun k => ?_) (Ev.now _))
    · have h3 : (0 : Int) ≤ 0 ∧ (0 : Int) ≤ 3 := by decide
      simp only [impl_SlowestDays.f, implRule_eq, Option.bind_some, InRange_eq, decide_eq_true r, if_true, Int.natCast_zero, decide_eq_true h3, Bool.not_true]
    · simp [impl_SlowestDays.j0]
  | n + 1, l, q, hn, hs, hq => by
    have hw9 := r.1
    have hm9 := r.2
    have := implSD_in m w r n (by omega) l (fun l' q' h1 h2 => implSD_down m w r n l' q' (by omega) h1 h2) m.toNat 0 q (by omega) (by omega) (by rw [List.replicate_zero, List.append_nil]; exact hs) hq
    rw [List.replicate_zero, List.append_nil] at this
    exact this
def mSlowest (m w : Int) (l : List Bool) (n : Int) : Int := if ruleOk m w ∧ 0 ≤ n ∧ n ≤ 3 then sd m w n.toNat l else -1
theorem implSD_ev (m w : Int) (l : List Bool) (n : Int) (hl : l.length ≤ 1048576) : Ev (fun k => impl_SlowestDays.f k m w l n) (mSlowest m w l n) := by
  unfold mSlowest
  by_cases h : ruleOk m w ∧ 0 ≤ n ∧ n ≤ 3
  · rw [if_pos h]
    have := implSD_down m w h.1 n.toNat l l (by omega) rfl (by omega)
    rw [show ((n.toNat : Nat) : Int) = n from by omega] at this
    exact this
  · rw [if_neg h]
    have hb : Ev (fun k => impl_SlowestDays.j0 k l n true m w) (-1) := Ev.step (f := fun _ => some (-1)) (fun k => by simp [impl_SlowestDays.j0]) (Ev.now _)
    refine Ev.step (fun k => ?_) hb
    simp only [impl_SlowestDays.f, implRule_eq, Option.bind_some, InRange_eq]
    by_cases r : ruleOk m w
    · rw [if_pos (decide_eq_true r), decide_eq_false (fun q => h ⟨r, q⟩)]
      rfl
    · rw [if_neg (by rw [decide_eq_true_eq]; exact r)]
def kf (m w : Int) (l : List Bool) : Nat → Nat → Bool
  | 0, _ => true
  | n + 1, e => if cnt (lastN w.toNat (l.take e)) > m then false else kf m w l n (e + 1)
theorem kf_succ (m w : Int) (l : List Bool) (n e : Nat) : kf m w l (n + 1) e = if cnt (lastN w.toNat (l.take e)) > m then false else kf m w l n (e + 1) := rfl
def mKeeps (m w : Int) (l : List Bool) : Bool := decide (ruleOk m w) && kf m w l l.length 1
theorem implK_down (m w : Int) (r : ruleOk m w) (l : List Bool) (hl : l.length ≤ 2097152) : ∀ (n e : Nat), e + n = l.length + 1 → Ev (fun k => impl_Keeps.l0 k l ((l.length : Int) + 1) (e : Int) m w) (kf m w l n e)
  | 0, e, h => by
    refine Ev.step (f := fun _ => some true) (fun k => ?_) (Ev.now _)
    simp only [impl_Keeps.l0]
    rw [if_neg (by omega)]
  | n + 1, e, h => by
    have hw := r.1
    have hlen : (l.take e).length = e := by rw [List.length_take]; omega
    have hN := lastN_len w.toNat (l.take e)
    have hL := implLast_eq (l.take e) w.toNat (by omega) (by omega)
    rw [show ((w.toNat : Nat) : Int) = w from by omega] at hL
    refine Ev.step (f := fun k => (impl_CountStorms.f k (lastN w.toNat (l.take e))).bind fun t121 => (if t121 > m then (some false) else (impl_Keeps.l0 k l ((l.length : Int) + 1) ((e + 1 : Nat) : Int) m w))) (fun k => ?_) ?_
    · simp only [impl_Keeps.l0, wrapi e (by omega), Int.toNat_natCast, hL, Option.bind_some]
      rw [if_pos (by omega), if_pos (by omega), if_pos (by omega), Int.natCast_add, Int.natCast_one]
    refine Ev.bind (ev_at (implCS_at _ (by omega))) ?_
    rw [kf_succ]
    by_cases c : cnt (lastN w.toNat (l.take e)) > m
    · simp only [if_pos c]
      exact Ev.now _
    · simp only [if_neg c]
      exact implK_down m w r l hl n (e + 1) (by omega)
theorem implK_ev (m w : Int) (l : List Bool) (hl : l.length ≤ 2097152) : Ev (fun k => impl_Keeps.f k m w l) (mKeeps m w l) := by
  unfold mKeeps
  simp only [impl_Keeps.f, implRule_eq, Option.bind_some, decide_eq_true_eq]
  by_cases r : ruleOk m w
  · have hm := r.2
    have h := implK_down m w r l hl (l.length + 1) 0 (by omega)
    have hz : ¬ cnt (lastN w.toNat (l.take 0)) > m := by
      have : cnt (lastN w.toNat (l.take 0)) = 0 := by simp [lastN, cnt]
      omega
    rw [kf_succ, if_neg hz] at h
    simp only [if_pos r, decide_eq_true r, Bool.true_and, wrapi l.length (by omega)]
    exact h
  · simp only [if_neg r, decide_eq_false r, Bool.false_and]
    exact Ev.now _
def thatN (m w : Int) (past : List Bool) : List (List Bool) → Int
  | [] => 0
  | x :: t => (if mKeeps m w (past ++ x) = true then 1 else 0) + thatN m w past t
theorem thatN_range (m w : Int) (past : List Bool) : ∀ t, 0 ≤ thatN m w past t ∧ thatN m w past t ≤ (t.length : Int)
  | [] => ⟨Int.le_refl _, Int.le_refl _⟩
  | x :: t => by
    have := thatN_range m w past t
    rw [List.length_cons]
    show 0 ≤ (if mKeeps m w (past ++ x) = true then 1 else 0) + thatN m w past t ∧ (if mKeeps m w (past ++ x) = true then 1 else 0) + thatN m w past t ≤ ((t.length + 1 : Nat) : Int)
    split <;> omega
theorem implTK_down (m w : Int) (past : List Bool) (l : List (List Bool)) (hp : past.length ≤ 1048576) (hl : l.length ≤ 1048576) (hr : ∀ x ∈ l, x.length ≤ 1048576) : ∀ (t d : List (List Bool)) (s : Int), l = d ++ t → 0 ≤ s → s ≤ d.length → Ev (fun k => impl_ThatKeep.l0 k past s l (l.length : Int) (d.length : Int) m w) (s + thatN m w past t)
  | [], d, s, h, _, _ => by
    have hlen : l.length = d.length := by rw [h]; simp
    refine Ev.step (f := fun _ => some s) (fun k => ?_) (by rw [show s + thatN m w past [] = s from by show s + 0 = s; omega]; exact Ev.now _)
    simp only [impl_ThatKeep.l0]
    rw [if_neg (by omega)]
  | x :: t, d, s, h, h0, h1 => by
    have hlen : l.length = d.length + (t.length + 1) := by rw [h]; simp
    have hx : l[d.length]? = some x := by rw [h]; simp
    have hrd : rd_L4 l (d.length : Int) = x := getD_of [] hx
    have hxl := hr x (by rw [h]; simp)
    have q3 : ([] : List Bool).length + past.length < 140737488355328 := by simp; omega
    have q4 : past.length + x.length < 140737488355328 := by omega
    refine Ev.step (f := fun k => (impl_Keeps.f k m w (past ++ x)).bind fun t133 => (if t133 = true then (impl_ThatKeep.l0 k past (s + 1) l (l.length : Int) ((d.length : Int) + 1) m w) else (impl_ThatKeep.l0 k past s l (l.length : Int) ((d.length : Int) + 1) m w))) (fun k => ?_) ?_
    · simp only [impl_ThatKeep.l0, hrd, Option.bind_some, List.nil_append, q3, q4, if_true, wrapi d.length (by omega), wrap_id (n := s + 1) (by omega) (by omega)]
      rw [if_pos (by omega), if_pos (by omega), if_pos (by omega)]
    refine Ev.bind (implK_ev m w _ (by rw [List.length_append]; omega)) ?_
    have ih := fun s' h0' h1' => implTK_down m w past l hp hl hr t (d ++ [x]) s' (by rw [h]; simp) h0' h1'
    rw [List.length_append, List.length_singleton, show ((d.length + 1 : Nat) : Int) = (d.length : Int) + 1 from by omega] at ih
    by_cases c : mKeeps m w (past ++ x) = true
    · simp only [if_pos c]
      rw [show s + thatN m w past (x :: t) = s + 1 + thatN m w past t from by show s + ((if mKeeps m w (past ++ x) = true then 1 else 0) + thatN m w past t) = _; rw [if_pos c]; omega]
      exact ih (s + 1) (by omega) (by omega)
    · simp only [if_neg c]
      rw [show s + thatN m w past (x :: t) = s + thatN m w past t from by show s + ((if mKeeps m w (past ++ x) = true then 1 else 0) + thatN m w past t) = _; rw [if_neg c]; omega]
      exact ih s (by omega) (by omega)
/-! ### Days at worst: a storm wherever there may be one -/
def wdIn (F : List Bool → Int) (m w : Int) : Nat → List Bool → Int
  | 0, l => 1 + F (l ++ [false])
  | d + 1, l => if may m w l = true then 1 + wdIn F m w d (l ++ [true]) else 1 + F (l ++ [false])
def wd (m w : Int) : Nat → List Bool → Int
  | 0, _ => 0
  | n + 1, l => wdIn (wd m w n) m w m.toNat l
theorem wdIn_succ (F : List Bool → Int) (m w : Int) (d : Nat) (l : List Bool) : wdIn F m w (d + 1) l = if may m w l = true then 1 + wdIn F m w d (l ++ [true]) else 1 + F (l ++ [false]) := rfl
theorem wdIn_range (F : List Bool → Int) (m w A B : Int) (hF : ∀ l, A ≤ F l ∧ F l ≤ B) : ∀ (d : Nat) (l : List Bool), A + 1 ≤ wdIn F m w d l ∧ wdIn F m w d l ≤ B + d + 1
  | 0, l => by
    have := hF (l ++ [false])
    show A + 1 ≤ 1 + F (l ++ [false]) ∧ 1 + F (l ++ [false]) ≤ B + ((0 : Nat) : Int) + 1
    omega
  | d + 1, l => by
    have h1 := hF (l ++ [false])
    have h2 := wdIn_range F m w A B hF d (l ++ [true])
    rw [wdIn_succ]
    split <;> omega
theorem wd_range (m w : Int) (hm : m ≤ 9) : ∀ (n : Nat) (l : List Bool), (n : Int) ≤ wd m w n l ∧ wd m w n l ≤ 11 * n
  | 0, _ => ⟨Int.le_refl _, Int.le_refl _⟩
  | n + 1, l => by
    have := wdIn_range (wd m w n) m w n (11 * n) (wd_range m w hm n) m.toNat l
    show ((n + 1 : Nat) : Int) ≤ wdIn (wd m w n) m w m.toNat l ∧ wdIn (wd m w n) m w m.toNat l ≤ 11 * ((n + 1 : Nat) : Int)
    omega
def mWorst (m w : Int) (l : List Bool) (n : Int) : Int := if ruleOk m w ∧ (0 ≤ n ∧ n ≤ 200) ∧ l.length ≤ 400 then wd m w n.toNat l else -1
theorem implWD_in (m w : Int) (n : Nat) (past : List Bool) (hm : m ≤ 9)
    (hF : ∀ (l q : List Bool) (acc : Int), Same l q → q.length ≤ 1048576 → 0 ≤ acc → acc + 12 * (n : Int) ≤ 1000000 → Ev (fun k => impl_WorstDays.l0 k q (n : Int) acc m w) (acc + wd m w n l)) (hn : n ≤ 200) :
    ∀ (d j : Nat) (q : List Bool) (acc : Int), m.toNat ≤ j + d → Same (past ++ List.replicate j true) q → q.length ≤ 1048576 → 0 ≤ acc → acc + d + 1 + 12 * (n : Int) ≤ 1000000 →
    Ev (fun k => impl_WorstDays.l0 k q ((n : Int) + 1) acc m w) (acc + wdIn (wd m w n) m w d (past ++ List.replicate j true))
  | d, j, q, acc, h, hs, hq, h0, h1 => by
    have e : (past ++ List.replicate j true) ++ [true] = past ++ List.replicate (j + 1) true := by rw [List.replicate_succ', List.append_assoc]
    have l1 := (lastN_len 10 (q ++ [false])).1
    have l2 := (lastN_len 10 (q ++ [true])).1
    have wa : wrap64 (acc + 1) = acc + 1 := wrap_id (by omega) (by omega)
    have wn : wrap64 (((n : Int) + 1) - 1) = (n : Int) := by rw [wrap_id (by omega) (by omega)]; omega
    refine Ev.step (f := fun k => (impl_MayStorm.f k m w q).bind fun t241 => (if t241 = true then (impl_WorstDays.l0 k (lastN 10 (q ++ [t241])) ((n : Int) + 1) (acc + 1) m w) else (impl_WorstDays.l0 k (lastN 10 (q ++ [t241])) (n : Int) (acc + 1) m w))) (fun k => ?_) ?_
    · simp only [impl_WorstDays.l0, implDay_eq q _ (show q.length ≤ 2097152 by omega), Option.bind_some, wa, wn]
      rw [if_pos (by omega)]
    refine Ev.bind (ev_at (implMay_at m w q (by omega))) ?_
    rw [← may_same m w hs]
    have calm : Ev (fun k => impl_WorstDays.l0 k (lastN 10 (q ++ [false])) (n : Int) (acc + 1) m w) (acc + (1 + wd m w n ((past ++ List.replicate j true) ++ [false]))) := by
      have := hF ((past ++ List.replicate j true) ++ [false]) (lastN 10 (q ++ [false])) (acc + 1) (same_add false hs) (by omega) (by omega) (by omega)
      rw [show acc + (1 + wd m w n ((past ++ List.replicate j true) ++ [false])) = acc + 1 + wd m w n ((past ++ List.replicate j true) ++ [false]) from by omega]
      exact this
    match d, h, h1 with
    | 0, h, h1 =>
      simp only [may_end m w past j (by omega), Bool.false_eq_true, if_false]
      exact calm
    | d + 1, h, h1 =>
      rw [wdIn_succ]
      by_cases c : may m w (past ++ List.replicate j true) = true
      · have hs' := same_add true hs
        rw [e] at hs'
        have ih := implWD_in m w n past hm hF hn d (j + 1) (lastN 10 (q ++ [true])) (acc + 1) (by omega) hs' (by omega) (by omega) (by omega)
        simp only [if_pos c]
        simp only [c, e]
        rw [show acc + (1 + wdIn (wd m w n) m w d (past ++ List.replicate (j + 1) true)) = acc + 1 + wdIn (wd m w n) m w d (past ++ List.replicate (j + 1) true) from by omega]
        exact ih
      · have c' : may m w (past ++ List.replicate j true) = false := by
          cases h' : may m w (past ++ List.replicate j true) with
          | false => rfl
          | true => exact absurd h' c
        simp only [c', Bool.false_eq_true, if_false]
        exact calm
theorem implWD_down (m w : Int) (hm : m ≤ 9) : ∀ (n : Nat) (l q : List Bool) (acc : Int), n ≤ 201 → Same l q → q.length ≤ 1048576 → 0 ≤ acc → acc + 12 * (n : Int) ≤ 1000000 → Ev (fun k => impl_WorstDays.l0 k q (n : Int) acc m w) (acc + wd m w n l)
  | 0, l, q, acc, _, _, _, _, _ => by
    refine Ev.step (f := fun _ => some acc) (fun k => ?_) (by rw [show acc + wd m w 0 l = acc from by show acc + 0 = acc; omega]; exact Ev.now _)
    simp only [impl_WorstDays.l0]
    rw [if_neg (by omega)]
  | n + 1, l, q, acc, hn, hs, hq, h0, h1 => by
    have := implWD_in m w n l hm (fun l' q' a h2 h3 h4 h5 => implWD_down m w hm n l' q' a (by omega) h2 h3 h4 h5) (by omega) m.toNat 0 q acc (by omega) (by rw [List.replicate_zero, List.append_nil]; exact hs) hq h0 (by omega)
    rw [List.replicate_zero, List.append_nil] at this
    exact this
theorem implWD_ev (m w : Int) (l : List Bool) (n : Int) (hl : l.length ≤ 1048576) : Ev (fun k => impl_WorstDays.f k m w l n) (mWorst m w l n) := by
  unfold mWorst
  have hb : Ev (fun k => impl_WorstDays.j0 k l n true m w) (-1) := Ev.step (f := fun _ => some (-1)) (fun k => by simp [impl_WorstDays.j0]) (Ev.now _)
  simp only [impl_WorstDays.f, implRule_eq, Option.bind_some, InRange_eq, decide_eq_true_eq]
  by_cases r : ruleOk m w
  · simp only [if_pos r]
    have hm := r.2
    have hw := r.1
    by_cases h : 0 ≤ n ∧ n ≤ 200
    · simp only [if_pos h]
      by_cases hp : l.length ≤ 400
      · rw [if_pos ⟨r, h, hp⟩, decide_eq_false (show ¬ (l.length : Int) > 400 from by omega)]
        have := implWD_down m w (by omega) n.toNat l l 0 (by omega) rfl hl (by omega) (by omega)
        rw [Int.zero_add, show ((n.toNat : Nat) : Int) = n from by omega] at this
        refine Ev.step (fun k => ?_) this
        simp only [impl_WorstDays.j0, Bool.false_eq_true, if_false]
      · rw [if_neg (fun q => hp q.2.2), decide_eq_true (show (l.length : Int) > 400 from by omega)]
        exact hb
    · simp only [if_neg h]
      rw [if_neg (fun q => h q.2.1)]
      exact hb
  · simp only [if_neg r]
    rw [if_neg (fun q => r q.1)]
    exact hb
/-! What a draw gives: that it ends, and the range of what it tells. -/
def Gets {ρ : Type} (P : ρ → Prop) (g : Nat → Option ρ) : Prop := ∃ r, P r ∧ Ev g r
theorem Gets.bind {α β : Type} {P : α → Prop} {Q : β → Prop} {f : Nat → Option α} {g : Nat → α → Option β} (hf : Gets P f) (hg : ∀ r, P r → Gets Q (fun k => g k r)) : Gets Q (fun k => (f k).bind (g k)) := by
  obtain ⟨r, hr, he⟩ := hf
  obtain ⟨s, hs, he'⟩ := hg r hr
  exact ⟨s, hs, Ev.bind he he'⟩
theorem Gets.ev {α β : Type} {P : α → Prop} {f : Nat → Option α} {g : Nat → α → Option β} {b : β} (hf : Gets P f) (hg : ∀ r, P r → Ev (fun k => g k r) b) : Ev (fun k => (f k).bind (g k)) b := by
  obtain ⟨r, hr, he⟩ := hf
  exact Ev.bind he (hg r hr)
theorem Gets.now {ρ : Type} {P : ρ → Prop} {r : ρ} (h : P r) : Gets P (fun _ => some r) := ⟨r, h, Ev.now _⟩
theorem Gets.step {ρ : Type} {P : ρ → Prop} {f g : Nat → Option ρ} (h : ∀ k, g (k + 1) = f k) (hf : Gets P f) : Gets P g := by
  obtain ⟨r, hr, he⟩ := hf
  exact ⟨r, hr, Ev.step h he⟩
theorem Gets.congr {ρ : Type} {P : ρ → Prop} {f g : Nat → Option ρ} (h : ∀ k, g k = f k) (hf : Gets P f) : Gets P g := by
  have e : g = f := funext h
  rw [e]; exact hf
theorem Gets.mono {ρ : Type} {P Q : ρ → Prop} {f : Nat → Option ρ} (h : ∀ r, P r → Q r) (hf : Gets P f) : Gets Q f := by
  obtain ⟨r, hr, he⟩ := hf
  exact ⟨r, h r hr, he⟩
def OkC (b : List Int) (i : Int) : Prop := b.length ≤ 1048576 ∧ 0 ≤ i ∧ i ≤ 1048576
theorem and255 (x : Int) : 0 ≤ Go.bits .and .i64 x 255 ∧ Go.bits .and .i64 x 255 ≤ 255 := by
  have h : ((BitVec.ofInt 64 x) &&& (BitVec.ofInt 64 255)).toNat ≤ 255 := by
    rw [BitVec.toNat_and]
    exact Nat.le_trans Nat.and_le_right (by decide)
  have e : Go.bits .and .i64 x 255 = wrap64 (((BitVec.ofInt 64 x) &&& (BitVec.ofInt 64 255)).toNat : Int) := by simp only [Go.bits, i64_w]; rfl
  rw [e, wrap_id (by omega) (by omega)]
  omega
theorem byte_ok (b : List Int) (i h : Int) (hc : OkC b i) : ∃ v i' h', spec_l1Byte.f b i h = some (v, i', h') ∧ 0 ≤ v ∧ v ≤ 255 ∧ OkC b i' := by
  obtain ⟨h1, h2, h3⟩ := hc
  unfold spec_l1Byte.f
  by_cases c : i < (b.length : Int)
  · rw [if_pos c, if_pos h2, wrap_id (n := i + 1) (by omega) (by omega)]
    exact ⟨_, _, _, rfl, (and255 _).1, (and255 _).2, h1, by omega, by omega⟩
  · rw [if_neg c]
    exact ⟨_, _, _, rfl, (and255 _).1, (and255 _).2, h1, h2, h3⟩
theorem tmod_range (a n : Int) (ha : 0 ≤ a) (hn : 0 < n) : 0 ≤ Int.tmod a n ∧ Int.tmod a n < n := by
  rw [Int.tmod_eq_emod_of_nonneg ha]
  exact ⟨Int.emod_nonneg _ (by omega), Int.emod_lt_of_pos _ hn⟩
theorem below_ok (b : List Int) (i h n : Int) (hc : OkC b i) : ∃ v i' h', spec_l1Below.f b i h n = some (v, i', h') ∧ 0 ≤ v ∧ (0 < n → v < n) ∧ OkC b i' := by
  unfold spec_l1Below.f
  by_cases c : n ≤ 0
  · rw [if_pos c]
    exact ⟨_, _, _, rfl, by omega, by omega, hc⟩
  · rw [if_neg c]
    by_cases c2 : n ≤ 256
    · obtain ⟨v, i', h', e, h0, h1, hc'⟩ := byte_ok b i h hc
      rw [if_pos c2, e]
      simp only [Option.bind_some]
      rw [if_neg (by omega)]
      have := tmod_range v n h0 (by omega)
      exact ⟨_, _, _, rfl, this.1, fun _ => this.2, hc'⟩
    · obtain ⟨v1, i1, h1, e1, a1, b1, hc1⟩ := byte_ok b i h hc
      obtain ⟨v2, i2, h2, e2, a2, b2, hc2⟩ := byte_ok b i1 h1 hc1
      obtain ⟨v3, i3, h3, e3, a3, b3, hc3⟩ := byte_ok b i2 h2 hc2
      rw [if_neg c2, e1]
      simp only [Option.bind_some, e2, e3]
      rw [if_neg (by omega), wrap_id (n := v1 * 65536) (by omega) (by omega), wrap_id (n := v2 * 256) (by omega) (by omega), wrap_id (n := v1 * 65536 + v2 * 256) (by omega) (by omega), wrap_id (by omega) (by omega)]
      have := tmod_range (v1 * 65536 + v2 * 256 + v3) n (by omega) (by omega)
      exact ⟨_, _, _, rfl, this.1, fun _ => this.2, hc3⟩
theorem once_ok (b : List Int) (i h n : Int) (hc : OkC b i) : ∃ v i' h', spec_l1Once.f b i h n = some (v, i', h') ∧ OkC b i' := by
  obtain ⟨v, i', h', e, _, _, hc'⟩ := below_ok b i h n hc
  unfold spec_l1Once.f
  rw [e]
  exact ⟨_, _, _, rfl, hc'⟩
theorem int_ok (b : List Int) (i h : Int) (l : List Int) (hl : 0 < l.length) (hc : OkC b i) : ∃ v i' h', spec_l1Int.f b i h l = some (v, i', h') ∧ v ∈ l ∧ OkC b i' := by
  obtain ⟨v, i', h', e, h0, h1, hc'⟩ := below_ok b i h (l.length : Int) hc
  have h1 := h1 (by omega)
  unfold spec_l1Int.f
  rw [e]
  simp only [Option.bind_some]
  rw [if_pos h0, if_pos h1]
  refine ⟨_, _, _, rfl, ?_, hc'⟩
  have : v.toNat < l.length := by omega
  simp only [rd, List.getD_eq_getElem?_getD, List.getElem?_eq_getElem this, Option.getD_some]
  exact List.getElem_mem _
theorem new_down (b : List Int) (hb : b.length ≤ 1048576) : ∀ (n i : Nat) (h : Int), i + n = b.length → ∃ h', Ev (fun k => spec_l1New.l0 k b h (i : Int)) (b, 0, h')
  | 0, i, h, hi => ⟨h, Ev.step (f := fun _ => some (b, 0, h)) (fun k => by simp only [spec_l1New.l0]; rw [if_neg (by omega)]) (Ev.now _)⟩
  | n + 1, i, h, hi => by
    by_cases c : (i : Int) < 4000
    · obtain ⟨h', ih⟩ := new_down b hb n (i + 1) (Go.bits .and .i64 (wrap64 ((wrap64 ((wrap64 (h * 137)) + (wrap64 (rd b (i : Int))))) + 11)) 1073741823) (by omega)
      refine ⟨h', Ev.step (f := fun k => spec_l1New.l0 k b (Go.bits .and .i64 (wrap64 ((wrap64 ((wrap64 (h * 137)) + (wrap64 (rd b (i : Int))))) + 11)) 1073741823) ((i + 1 : Nat) : Int)) (fun k => ?_) ih⟩
      simp only [spec_l1New.l0, wrapi i (by omega)]
      rw [if_pos (by omega), if_pos c, if_pos (by omega), Int.natCast_add, Int.natCast_one]
    · refine ⟨h, Ev.step (f := fun _ => some (b, 0, h)) (fun k => ?_) (Ev.now _)⟩
      simp only [spec_l1New.l0]
      rw [if_pos (by omega), if_neg c]
theorem new_ok (b : List Int) (hb : b.length ≤ 1048576) : Gets (fun r => r.1 = b ∧ OkC r.1 r.2.1) (fun k => spec_l1New.f k b) := by
  obtain ⟨h', he⟩ := new_down b hb b.length 0 (wrap64 (193017 + (b.length : Int))) (by omega)
  exact ⟨(b, 0, h'), ⟨rfl, hb, Int.le_refl 0, show (0 : Int) ≤ 1048576 by decide⟩, he⟩
theorem draw7_down (b : List Int) : ∀ (n : Nat) (xs : List S112) (i h : Int), xs.length + n = 9 → OkC b i →
    Gets (fun r => (r.1.length ≤ 9 ∧ xs.length ≤ r.1.length ∧ (xs.length = 0 → 0 < r.1.length)) ∧ OkC b r.2.1) (fun k => spec_l7Draw.l0 k xs ((xs.length : Int) + 1) b i h)
  | 0, xs, i, h, hn, hc => by
    obtain ⟨v, i', h', e, v0, v1, hc'⟩ := below_ok b i h 4 hc
    have v1 := v1 (by omega)
    refine Gets.step (f := fun _ => some (xs, i', h')) (fun k => ?_) (Gets.now ⟨⟨by show xs.length ≤ 9; omega, Nat.le_refl _, fun h0 => by omega⟩, hc'⟩)
    simp only [spec_l7Draw.l0, e, Option.bind_some]
    rw [wrap_id (n := 1 + v) (by omega) (by omega), if_neg (by omega)]
  | n + 1, xs, i, h, hn, hc => by
    obtain ⟨v, i', h', e, v0, v1, hc'⟩ := below_ok b i h 4 hc
    have v1 := v1 (by omega)
    by_cases c : (xs.length : Int) + 1 ≤ 1 + v
    · obtain ⟨v2, i2, h2, e2, a2, b2, hc2⟩ := below_ok b i' h' 20 hc'
      obtain ⟨v4, i4, h4, e4, a4, b4, hc4⟩ := below_ok b i2 h2 3 hc2
      obtain ⟨v3, i3, h3, e3, hc3⟩ := once_ok b i4 h4 8 hc4
      have ih := draw7_down b n (xs ++ [⟨wrap64 (2 * ((xs.length : Int) + 1)), wrap64 (5 + v2), wrap64 (1 + v4), v3⟩]) i3 h3 (by simp; omega) hc3
      rw [List.length_append, List.length_singleton] at ih
      refine Gets.step (f := fun k => spec_l7Draw.l0 k (xs ++ [⟨wrap64 (2 * ((xs.length : Int) + 1)), wrap64 (5 + v2), wrap64 (1 + v4), v3⟩]) (((xs.length + 1 : Nat) : Int) + 1) b i3 h3) (fun k => ?_) (Gets.mono (fun r hr => ⟨⟨hr.1.1, by omega, fun _ => by omega⟩, hr.2⟩) ih)
      simp only [spec_l7Draw.l0, e, e2, e3, e4, Option.bind_some]
      rw [wrap_id (n := 1 + v) (by omega) (by omega), if_pos c, if_pos (by omega), wrap_id (n := (xs.length : Int) + 1 + 1) (by omega) (by omega), Int.natCast_add, Int.natCast_one]
    · refine Gets.step (f := fun _ => some (xs, i', h')) (fun k => ?_) (Gets.now ⟨⟨by show xs.length ≤ 9; omega, Nat.le_refl _, fun h0 => by omega⟩, hc'⟩)
      simp only [spec_l7Draw.l0, e, Option.bind_some]
      rw [wrap_id (n := 1 + v) (by omega) (by omega), if_neg c]
theorem draw7_ok (b : List Int) (i h : Int) (hc : OkC b i) : Gets (fun r => (r.1.length ≤ 9 ∧ 0 < r.1.length) ∧ OkC b r.2.1) (fun k => spec_l7Draw.f k b i h) := by
  have := draw7_down b 9 [] i h rfl hc
  exact Gets.mono (fun r hr => ⟨⟨hr.1.1, hr.1.2.2 rfl⟩, hr.2⟩) this
theorem any7_ok (b : List Int) (i h : Int) (hc : OkC b i) : Gets (fun r => r.1.length ≤ 9 ∧ OkC b r.2.1) (fun k => spec_l7Any.f k b i h) := by
  unfold spec_l7Any.f
  refine Gets.bind (draw7_ok b i h hc) ?_
  rintro ⟨xs, i1, h1⟩ ⟨⟨hx, hx0⟩, hc1⟩
  simp only at hx hx0 hc1 ⊢
  obtain ⟨v, i2, h2, e2, v0, v1, hc2⟩ := below_ok b i1 h1 (xs.length : Int) hc1
  have v1 := v1 (by omega)
  obtain ⟨u, i3, h3, e3, u0, u1, hc3⟩ := below_ok b i2 h2 12 hc2
  simp only [e2, e3, Option.bind_some]
  by_cases c0 : u = 0
  · obtain ⟨w, i4, h4, e4, _, hc4⟩ := int_ok b i3 h3 [0, 2, 99, 100] (by decide) hc3
    simp only [if_pos c0, e4, Option.bind_some, if_pos v0, if_pos v1]
    exact Gets.now ⟨by rw [List.length_set]; exact hx, hc4⟩
  · simp only [if_neg c0]
    by_cases c1 : u = 1
    · obtain ⟨w, i4, h4, e4, _, hc4⟩ := int_ok b i3 h3 [-1, 100, 101] (by decide) hc3
      simp only [if_pos c1, e4, Option.bind_some, if_pos v0, if_pos v1]
      exact Gets.now ⟨by rw [List.length_set]; exact hx, hc4⟩
    · simp only [if_neg c1]
      by_cases c2 : u = 2
      · obtain ⟨w, i4, h4, e4, _, hc4⟩ := int_ok b i3 h3 [0, 10, 11] (by decide) hc3
        simp only [if_pos c2, e4, Option.bind_some, if_pos v0, if_pos v1]
        exact Gets.now ⟨by rw [List.length_set]; exact hx, hc4⟩
      · simp only [if_neg c2]
        by_cases c3 : u = 3
        · simp only [if_pos c3]
          exact Gets.now ⟨by simp, hc3⟩
        · simp only [if_neg c3]
          exact Gets.now ⟨hx, hc3⟩
/-! ### Draws: rules, pasts, lands, parties -/
theorem rule6_ok (b : List Int) (i h : Int) (hc : OkC b i) : ∃ m w i' h', spec_l6Rule.f b i h = some (m, w, i', h') ∧ (1 ≤ w ∧ w ≤ 6) ∧ (0 ≤ m ∧ m < w) ∧ OkC b i' := by
  obtain ⟨v, i1, h1, e1, a1, b1, hc1⟩ := below_ok b i h 6 hc
  have b1 := b1 (by omega)
  obtain ⟨u, i2, h2, e2, a2, b2, hc2⟩ := below_ok b i1 h1 (1 + v) hc1
  have b2 := b2 (by omega)
  refine ⟨u, 1 + v, i2, h2, ?_, ⟨by omega, by omega⟩, ⟨a2, b2⟩, hc2⟩
  simp only [spec_l6Rule.f, e1, Option.bind_some, wrap_id (n := 1 + v) (by omega) (by omega), e2]
theorem past_down (b : List Int) (m w : Int) (N : Nat) (hN : N ≤ 1000) : ∀ (n : Nat) (xs : List Bool) (i h : Int), xs.length + n = N → OkC b i →
    Gets (fun r => r.1.length = N ∧ OkC b r.2.1) (fun k => spec_l6Past.l0 k (N : Int) xs (xs.length : Int) b i h m w)
  | 0, xs, i, h, hn, hc => by
    refine Gets.step (f := fun _ => some (xs, i, h)) (fun k => ?_) (Gets.now ⟨by simpa using hn, hc⟩)
    simp only [spec_l6Past.l0]
    rw [if_neg (by omega)]
  | n + 1, xs, i, h, hn, hc => by
    refine Gets.step (f := fun k => (spec_MayStorm.f k m w xs).bind fun t194 => (if t194 = true then ((spec_l1Once.f b i h 2).bind fun bt195 => (if xs.length < 140737488355328 then (spec_l6Past.l0 k (N : Int) (xs ++ [bt195.1]) ((xs.length : Int) + 1) b bt195.2.1 bt195.2.2 m w) else (none))) else (if xs.length < 140737488355328 then (spec_l6Past.l0 k (N : Int) (xs ++ [false]) ((xs.length : Int) + 1) b i h m w) else (none)))) (fun k => ?_) ?_
    · simp only [spec_l6Past.l0, wrapi xs.length (by omega)]
      rw [if_pos (by omega)]
    · refine Gets.bind (P := fun _ => True) ⟨may m w xs, trivial, ev_at (specMay_at m w xs (by omega))⟩ ?_
      intro t _
      cases t with
      | true =>
        obtain ⟨v, i1, h1, e1, hc1⟩ := once_ok b i h 2 hc
        simp only [if_true, e1, Option.bind_some, if_pos (show xs.length < 140737488355328 from by omega)]
        have ih := past_down b m w N hN n (xs ++ [v]) i1 h1 (by simp; omega) hc1
        rw [List.length_append, List.length_singleton, show ((xs.length + 1 : Nat) : Int) = (xs.length : Int) + 1 from by omega] at ih
        exact ih
      | false =>
        simp only [Bool.false_eq_true, if_false, if_pos (show xs.length < 140737488355328 from by omega)]
        have ih := past_down b m w N hN n (xs ++ [false]) i h (by simp; omega) hc
        rw [List.length_append, List.length_singleton, show ((xs.length + 1 : Nat) : Int) = (xs.length : Int) + 1 from by omega] at ih
        exact ih
theorem past6_ok (b : List Int) (i h m w n : Int) (hn : 0 ≤ n ∧ n ≤ 1000) (hc : OkC b i) : Gets (fun r => (r.1.length : Int) = n ∧ OkC b r.2.1) (fun k => spec_l6Past.f k b i h m w n) := by
  obtain ⟨N, rfl⟩ := Int.eq_ofNat_of_zero_le hn.1
  have := past_down b m w N (by omega) N [] i h (by simp) hc
  exact Gets.mono (fun r hr => ⟨by rw [hr.1], hr.2⟩) this
theorem land_down (b : List Int) (W H : Int) (N : Nat) (hN : N ≤ 64) (hw : wrap64 (W * H) = (N : Int)) (h1 : 1 ≤ N) : ∀ (n : Nat) (xs : List Int) (i h : Int), xs.length + n = N → (∀ x ∈ xs, 0 ≤ x ∧ x ≤ 2) → OkC b i →
    Gets (fun r => (r.1 = W ∧ r.2.1 = H ∧ r.2.2.1.length = N ∧ (∀ x ∈ r.2.2.1, 0 ≤ x ∧ x ≤ 2) ∧ rd r.2.2.1 0 = 0) ∧ OkC b r.2.2.2.1) (fun k => spec_l4Draw.l0 k (xs.length : Int) b i h W H xs)
  | 0, xs, i, h, hn, hx, hc => by
    refine Gets.step (f := fun _ => some (W, H, xs.set 0 0, i, h)) (fun k => ?_) (Gets.now ⟨⟨rfl, rfl, by simpa using hn, fun x hxm => ?_, ?_⟩, hc⟩)
    · simp only [spec_l4Draw.l0, hw]
      rw [if_neg (by omega), if_pos (by omega)]; rfl
    · rcases List.mem_or_eq_of_mem_set hxm with e | e
      · exact hx x e
      · omega
    · show rd (xs.set 0 0) 0 = 0
      have hpos : 0 < xs.length := by omega
      simp [rd, List.getD_eq_getElem?_getD, List.getElem?_set, hpos]
  | n + 1, xs, i, h, hn, hx, hc => by
    obtain ⟨v, i1, h1', e1, hv, hc1⟩ := int_ok b i h [0, 0, 0, 0, 1, 2] (by decide) hc
    have hv' : 0 ≤ v ∧ v ≤ 2 := by
      simp at hv
      omega
    have ih := land_down b W H N hN hw h1 n (xs ++ [v]) i1 h1' (by simp; omega) (fun x hxm => by
      rcases List.mem_append.1 hxm with e | e
      · exact hx x e
      · rw [List.mem_singleton] at e; subst e; exact hv') hc1
    rw [List.length_append, List.length_singleton, show ((xs.length + 1 : Nat) : Int) = (xs.length : Int) + 1 from by omega] at ih
    refine Gets.step (fun k => ?_) ih
    simp only [spec_l4Draw.l0, hw, e1, Option.bind_some, wrapi xs.length (by omega)]
    rw [if_pos (by omega), if_pos (by omega)]
def Drawn4 (W H : Int) (C : List Int) : Prop := mLand W H C = true ∧ (2 ≤ W ∧ W ≤ 6) ∧ (2 ≤ H ∧ H ≤ 5) ∧ rd C 0 = 0 ∧ 1 ≤ C.length
theorem land4_ok (b : List Int) (i h : Int) (hc : OkC b i) : Gets (fun r => Drawn4 r.1 r.2.1 r.2.2.1 ∧ OkC b r.2.2.2.1) (fun k => spec_l4Draw.f k b i h) := by
  obtain ⟨v, i1, h1, e1, a1, b1, hc1⟩ := below_ok b i h 5 hc
  have b1 := b1 (by omega)
  obtain ⟨u, i2, h2, e2, a2, b2, hc2⟩ := below_ok b i1 h1 4 hc1
  have b2 := b2 (by omega)
  have hm := mul64 (W := 2 + v) (H := 2 + u) (by omega) (by omega)
  obtain ⟨N, hN⟩ := Int.eq_ofNat_of_zero_le (show 0 ≤ (2 + v) * (2 + u) from by omega)
  have := land_down b (2 + v) (2 + u) N (by omega) (by rw [wrap_id (by omega) (by omega), hN]) (by omega) N [] i2 h2 (by simp) (fun x hx => by simp at hx) hc2
  refine Gets.congr (fun k => ?_) (Gets.mono (fun r hr => ?_) this)
  · simp only [spec_l4Draw.f, e1, Option.bind_some, e2, wrap_id (n := 2 + v) (by omega) (by omega), wrap_id (n := 2 + u) (by omega) (by omega)]
    rfl
  · obtain ⟨⟨r1, r2, r3, r4, r5⟩, r6⟩ := hr
    refine ⟨⟨mLand_iff.2 ⟨by omega, by omega, ?_, r4⟩, by omega, by omega, r5, by omega⟩, r6⟩
    rw [r1, r2, r3, hN]
theorem raw4_ok (b : List Int) (i h : Int) (hc : OkC b i) : ∃ v i' h', spec_l4Raw.f b i h = some (v, i', h') ∧ OkC b i' := by
  obtain ⟨v, i1, h1, e1, _, hc1⟩ := int_ok b i h [-1, 0, 8, 9, 64, 9223372036854775807, -9223372036854775808] (by decide) hc
  exact ⟨v, i1, h1, by simp only [spec_l4Raw.f, e1, Option.bind_some], hc1⟩
theorem any4_ok (b : List Int) (i h : Int) (hc : OkC b i) : Gets (fun r => r.2.2.1.length ≤ 64 ∧ OkC b r.2.2.2.1) (fun k => spec_l4Any.f k b i h) := by
  unfold spec_l4Any.f
  refine Gets.bind (land4_ok b i h hc) ?_
  rintro ⟨W, H, C, i1, h1⟩ ⟨hd, hc1⟩
  simp only at hd hc1 ⊢
  have hlen := mLand_len hd.1
  have hpos : 1 ≤ C.length := hd.2.2.2.2
  have f0 : ∀ (W H : Int) (C : List Int) (i h : Int), C.length ≤ 64 → OkC b i → Gets (fun r => r.2.2.1.length ≤ 64 ∧ OkC b r.2.2.2.1) (fun k => spec_l4Any.j0 k b i h W H C) := fun W H C i h hl hc => Gets.step (f := fun _ => some (W, H, C, i, h)) (fun k => rfl) (Gets.now ⟨hl, hc⟩)
  obtain ⟨v, i2, h2, e2, _, _, hc2⟩ := below_ok b i1 h1 14 hc1
  simp only [e2, Option.bind_some]
  by_cases c0 : v = 0
  · obtain ⟨u, i3, h3, e3, hc3⟩ := raw4_ok b i2 h2 hc2
    simp only [if_pos c0, e3, Option.bind_some]
    exact f0 _ _ _ _ _ hlen hc3
  · simp only [if_neg c0]
    by_cases c1 : v = 1
    · obtain ⟨u, i3, h3, e3, hc3⟩ := raw4_ok b i2 h2 hc2
      simp only [if_pos c1, e3, Option.bind_some]
      exact f0 _ _ _ _ _ hlen hc3
    · simp only [if_neg c1]
      by_cases c2 : v = 2
      · obtain ⟨u, i3, h3, e3, _, hc3⟩ := int_ok b i2 h2 [-1, 2, 3] (by decide) hc2
        simp only [if_pos c2, e3, Option.bind_some, if_pos (show (0 : Int) < (C.length : Int) from by omega)]
        exact f0 _ _ _ _ _ (by rw [List.length_set]; exact hlen) hc3
      · simp only [if_neg c2]
        by_cases c3 : v = 3
        · simp only [if_pos c3, if_pos (show (1 : Int) ≤ (C.length : Int) from by omega)]
          exact f0 _ _ _ _ _ (by rw [List.length_drop]; omega) hc2
        · simp only [if_neg c3]
          exact f0 _ _ _ _ _ hlen hc2
theorem reach_down (days : Int) (d : List Int) (hd : d.length ≤ 1048576) : ∀ (t e out : List Int), d = e ++ t → out.length ≤ e.length → (∀ x ∈ out, 0 ≤ x ∧ x < (d.length : Int)) →
    Gets (fun r => out.length ≤ r.length ∧ r.length ≤ d.length ∧ (∀ x ∈ r, 0 ≤ x ∧ x < (d.length : Int)) ∧ ((∃ v ∈ t, 0 ≤ v ∧ v ≤ days) → 0 < r.length)) (fun k => spec_Reach.l0 k days out d (e.length : Int))
  | [], e, out, h, ho, hx => by
    have hlen : d.length = e.length := by rw [h]; simp
    refine Gets.step (f := fun _ => some out) (fun k => ?_) (Gets.now ⟨Nat.le_refl _, by omega, hx, fun ⟨v, hv, _⟩ => by simp at hv⟩)
    simp only [spec_Reach.l0]
    rw [if_neg (by omega)]
  | v :: t, e, out, h, ho, hx => by
    have hlen : d.length = e.length + (t.length + 1) := by rw [h]; simp
    have hr : rd d (e.length : Int) = v := getD_of 0 (by rw [h]; simp)
    have hsn : d = (e ++ [v]) ++ t := by rw [h]; simp
    have h1 : (((e ++ [v]).length : Nat) : Int) = (e.length : Int) + 1 := by simp
    by_cases c : 0 ≤ v ∧ v ≤ days
    · have ih := reach_down days d hd t (e ++ [v]) (out ++ [(e.length : Int)]) hsn (by simp; omega) (fun x hxm => by
        rcases List.mem_append.1 hxm with q | q
        · exact hx x q
        · rw [List.mem_singleton] at q; omega)
      rw [h1] at ih
      refine Gets.step (fun k => ?_) (Gets.mono (fun r hr' => ?_) ih)
      · simp only [spec_Reach.l0, hr, wrapi e.length (by omega)]
        rw [if_pos (by omega), if_pos (by omega), if_pos (by omega), if_pos (by omega), if_pos (by omega)]
      · rw [List.length_append, List.length_singleton] at hr'
        exact ⟨by omega, hr'.2.1, hr'.2.2.1, fun _ => by omega⟩
    · have ih := reach_down days d hd t (e ++ [v]) out hsn (by simp; omega) hx
      rw [h1] at ih
      refine Gets.step (fun k => ?_) (Gets.mono (fun r hr' => ?_) ih)
      · simp only [spec_Reach.l0, hr, wrapi e.length (by omega)]
        rw [if_pos (by omega), if_pos (by omega)]
        by_cases c1 : v ≥ 0
        · rw [if_pos c1, if_neg (by omega)]
        · rw [if_neg c1]
      · refine ⟨hr'.1, hr'.2.1, hr'.2.2.1, fun ⟨u, hu, hu'⟩ => ?_⟩
        rcases List.mem_cons.1 hu with q | q
        · subst q; exact absurd hu' c
        · exact hr'.2.2.2 ⟨u, q, hu'⟩
theorem from_base {W H : Int} {C : List Int} {a : Int} (h : mOpen W H C a = true) : 0 ∈ mFrom W C a := by
  obtain ⟨_, _, h0⟩ := from_fin h
  obtain ⟨_, a0, a1⟩ := mCell_iff.1 (mOpen_iff.1 h).1
  have := rd_mem (d := mFrom W C a) a0 (by rw [mFrom_len h]; exact a1)
  rw [h0] at this
  exact this
theorem reach_ok (W H : Int) (C : List Int) (a days : Int) (hC : C.length ≤ 64) (hd : 0 ≤ days) : Gets (fun r => r.length ≤ 64 ∧ (∀ x ∈ r, 0 ≤ x ∧ x < (C.length : Int)) ∧ (mOpen W H C a = true → 0 < r.length)) (fun k => spec_Reach.f k W H C a days) := by
  unfold spec_Reach.f
  simp only [Option.bind_some]
  refine Gets.bind (P := fun t => t = mOpen W H C a) ⟨_, rfl, specOpen_ev W H C a (by omega)⟩ ?_
  rintro t rfl
  cases ho : mOpen W H C a with
  | false => simp only [Bool.false_eq_true, if_false]; exact Gets.now ⟨by simp, by simp, by simp⟩
  | true =>
    simp only [if_true]
    refine Gets.bind (P := fun d => d = mFrom W C a) ⟨_, rfl, specFrom_ev W H C a ho⟩ ?_
    rintro d rfl
    have hl := mFrom_len ho
    have := reach_down days (mFrom W C a) (by omega) (mFrom W C a) [] [] rfl (by simp) (by simp)
    rw [hl] at this
    exact Gets.mono (fun r hr => ⟨by omega, hr.2.2.1, fun _ => hr.2.2.2 ⟨0, from_base ho, Int.le_refl _, hd⟩⟩) this
theorem getD_in {l : List Int} {i : Int} (h0 : 0 ≤ i) (h1 : i < (l.length : Int)) : rd l i ∈ l := rd_mem h0 h1
theorem draw9_ok (b : List Int) (i h W H : Int) (C : List Int) (m w : Int) (hC : C.length ≤ 64) (hc : OkC b i) : Gets (fun r => ((0 ≤ r.2.1 ∧ r.2.1 ≤ 60) ∧ r.2.2.1.length ≤ 9 ∧ r.2.2.2.1.length ≤ 8) ∧ OkC b r.2.2.2.2.1) (fun k => spec_l9Draw.f k b i h W H C m w) := by
  unfold spec_l9Draw.f
  obtain ⟨v, i1, h1, e1, a1, b1, hc1⟩ := below_ok b i h 60 hc
  have b1 := b1 (by omega)
  simp only [e1, Option.bind_some]
  refine Gets.bind (draw7_ok b i1 h1 hc1) ?_
  rintro ⟨xs, i2, h2⟩ ⟨⟨hx, _⟩, hc2⟩
  simp only at hx hc2 ⊢
  obtain ⟨n, i3, h3, e3, a3, b3, hc3⟩ := below_ok b i2 h2 8 hc2
  have b3 := b3 (by omega)
  simp only [e3, Option.bind_some]
  refine Gets.bind (past6_ok b i3 h3 m w n (by omega) hc3) ?_
  rintro ⟨ps, i4, h4⟩ ⟨hp, hc4⟩
  simp only at hp hc4 ⊢
  refine Gets.bind (reach_ok W H C 0 99 hC (by omega)) ?_
  rintro r ⟨hr, hrx, _⟩
  have fin : ∀ (at_ i h : Int), OkC b i → Gets (fun r => ((0 ≤ r.2.1 ∧ r.2.1 ≤ 60) ∧ r.2.2.1.length ≤ 9 ∧ r.2.2.2.1.length ≤ 8) ∧ OkC b r.2.2.2.2.1) (fun k => spec_l9Draw.j0 k b i h at_ v xs ps) := fun at_ i h hc => Gets.step (f := fun _ => some (at_, v, xs, ps, i, h)) (fun k => rfl) (Gets.now ⟨⟨⟨a1, by show v ≤ 60; omega⟩, hx, by show ps.length ≤ 8; omega⟩, hc⟩)
  by_cases c : (r.length : Int) > 0
  · obtain ⟨u, i5, h5, e5, a5, b5, hc5⟩ := below_ok b i4 h4 (r.length : Int) hc4
    have b5 := b5 (by omega)
    simp only [if_pos c, e5, Option.bind_some, if_pos a5, if_pos b5]
    exact fin _ _ _ hc5
  · simp only [if_neg c]
    exact fin _ _ _ hc4
theorem any9_ok (b : List Int) (i h : Int) (hc : OkC b i) : Gets (fun r => ((-1 ≤ r.2.2.2.2.1 ∧ r.2.2.2.2.1 ≤ 10001) ∧ r.2.2.2.2.2.1.length ≤ 9 ∧ r.2.2.2.2.2.2.1.length ≤ 8)) (fun k => spec_l9Any.f k b i h) := by
  unfold spec_l9Any.f
  refine Gets.bind (any4_ok b i h hc) ?_
  rintro ⟨W, H, C, i1, h1⟩ ⟨hC, hc1⟩
  simp only at hC hc1 ⊢
  obtain ⟨m, w, i2, h2, e2, _, _, hc2⟩ := rule6_ok b i1 h1 hc1
  simp only [e2, Option.bind_some]
  refine Gets.bind (draw9_ok b i2 h2 W H C m w hC hc2) ?_
  rintro ⟨at_, food, xs, ps, i3, h3⟩ ⟨⟨hf, hx, hp⟩, hc3⟩
  simp only at hf hx hp hc3 ⊢
  obtain ⟨v, i4, h4, e4, _, _, hc4⟩ := below_ok b i3 h3 12 hc3
  simp only [e4, Option.bind_some]
  have f0 : ∀ (at_ food : Int) (xs : List S112) (i h : Int), (-1 ≤ food ∧ food ≤ 10001) → xs.length ≤ 9 → Gets (fun r => ((-1 ≤ r.2.2.2.2.1 ∧ r.2.2.2.2.1 ≤ 10001) ∧ r.2.2.2.2.2.1.length ≤ 9 ∧ r.2.2.2.2.2.2.1.length ≤ 8)) (fun k => spec_l9Any.j0 k b i h W H C at_ food xs ps) := fun at_ food xs i h hf hx => Gets.step (f := fun _ => some (W, H, C, at_, food, xs, ps, i, h)) (fun k => rfl) (Gets.now ⟨hf, hx, hp⟩)
  by_cases c0 : v = 0
  · obtain ⟨u, i5, h5, e5, hc5⟩ := raw4_ok b i4 h4 hc4
    simp only [if_pos c0, e5, Option.bind_some]
    exact f0 _ _ _ _ _ (by omega) hx
  · simp only [if_neg c0]
    by_cases c1 : v = 1
    · obtain ⟨u, i5, h5, e5, hu, hc5⟩ := int_ok b i4 h4 [-1, 0, 10000, 10001] (by decide) hc4
      simp only [if_pos c1, e5, Option.bind_some]
      refine f0 _ _ _ _ _ ?_ hx
      simp at hu
      omega
    · simp only [if_neg c1]
      by_cases c2 : v = 2
      · simp only [if_pos c2]
        refine Gets.bind (any7_ok b i4 h4 hc4) ?_
        rintro ⟨ys, i5, h5⟩ ⟨hy, _⟩
        exact f0 _ _ _ _ _ (by omega) hy
      · simp only [if_neg c2]
        exact f0 _ _ _ _ _ (by omega) hx
theorem eat_ok (c : List Int) (hl : c.length ≤ 1048576) : Gets (fun r => ((-1 ≤ r.2.1 ∧ r.2.1 ≤ 10001) ∧ r.2.2.1.length ≤ 9 ∧ r.2.2.2.length ≤ 8)) (fun k => spec_DrawEat.f k c) := by
  unfold spec_DrawEat.f spec_DrawIsParty.f
  refine Gets.bind (P := fun r => ((-1 ≤ r.2.2.2.2.1 ∧ r.2.2.2.2.1 ≤ 10001) ∧ r.2.2.2.2.2.1.length ≤ 9 ∧ r.2.2.2.2.2.2.length ≤ 8)) ?_ ?_
  · refine Gets.bind (new_ok c hl) ?_
    rintro ⟨b, i, h⟩ ⟨rfl, hc⟩
    refine Gets.bind (any9_ok _ i h hc) ?_
    rintro ⟨W, H, C, at_, food, xs, ps, i1, h1⟩ hr
    exact Gets.now hr
  · rintro ⟨W, H, C, at_, food, xs, ps⟩ hr
    exact Gets.now hr
theorem any6_ok (b : List Int) (i h : Int) (hc : OkC b i) : Gets (fun r => r.2.2.1.length ≤ 15 ∧ OkC b r.2.2.2.1) (fun k => spec_l6Any.f k b i h) := by
  unfold spec_l6Any.f
  obtain ⟨m, w, i1, h1, e1, _, _, hc1⟩ := rule6_ok b i h hc
  obtain ⟨v, i2, h2, e2, a2, b2, hc2⟩ := below_ok b i1 h1 15 hc1
  have b2 := b2 (by omega)
  simp only [e1, e2, Option.bind_some]
  refine Gets.bind (past6_ok b i2 h2 m w v (by omega) hc2) ?_
  rintro ⟨ps, i3, h3⟩ ⟨hp, hc3⟩
  simp only at hp hc3 ⊢
  have f0 : ∀ (ps : List Bool) (i h m w : Int), ps.length ≤ 15 → OkC b i → Gets (fun r => r.2.2.1.length ≤ 15 ∧ OkC b r.2.2.2.1) (fun k => spec_l6Any.j0 k ps b i h m w) := fun ps i h m w hl hc => Gets.step (f := fun _ => some (m, w, ps, i, h)) (fun k => rfl) (Gets.now ⟨hl, hc⟩)
  obtain ⟨u, i4, h4, e4, _, _, hc4⟩ := below_ok b i3 h3 10 hc3
  simp only [e4, Option.bind_some]
  by_cases c0 : u = 0
  · obtain ⟨x, i5, h5, e5, _, hc5⟩ := int_ok b i4 h4 [-1, 5, 9, 10] (by decide) hc4
    simp only [if_pos c0, e5, Option.bind_some]
    exact f0 _ _ _ _ _ (by omega) hc5
  · simp only [if_neg c0]
    by_cases c1 : u = 1
    · obtain ⟨x, i5, h5, e5, _, hc5⟩ := int_ok b i4 h4 [0, 10, 11] (by decide) hc4
      simp only [if_pos c1, e5, Option.bind_some]
      exact f0 _ _ _ _ _ (by omega) hc5
    · simp only [if_neg c1]
      by_cases c2 : u = 2
      · simp only [if_pos c2, if_pos (show ps.length < 140737488355328 from by omega)]
        exact f0 _ _ _ _ _ (by simp; omega) hc4
      · simp only [if_neg c2]
        exact f0 _ _ _ _ _ (by omega) hc4
theorem drawSlow_ok (c : List Int) (hl : c.length ≤ 1048576) : Gets (fun r => (1 ≤ r.2.1 ∧ r.2.1 ≤ 6) ∧ r.2.2.1.length ≤ 7 ∧ (r.2.2.2 = 4 ∨ -1 ≤ r.2.2.2 ∧ r.2.2.2 ≤ 2)) (fun k => spec_DrawSlowestDays.f k c) := by
  unfold spec_DrawSlowestDays.f
  refine Gets.bind (new_ok c hl) ?_
  rintro ⟨b, i, h⟩ ⟨rfl, hc⟩
  simp only at hc ⊢
  obtain ⟨m, w, i1, h1, e1, hw, hm, hc1⟩ := rule6_ok b i h hc
  obtain ⟨v, i2, h2, e2, a2, b2, hc2⟩ := below_ok b i1 h1 8 hc1
  have b2 := b2 (by omega)
  simp only [e1, e2, Option.bind_some]
  refine Gets.bind (past6_ok b i2 h2 m w v (by omega) hc2) ?_
  rintro ⟨ps, i3, h3⟩ ⟨hp, hc3⟩
  simp only at hp hc3 ⊢
  obtain ⟨x, i4, h4, e4, hc4⟩ := once_ok b i3 h3 9 hc3
  simp only [e4, Option.bind_some]
  have fin : ∀ m' : Int, Gets (fun r => (1 ≤ r.2.1 ∧ r.2.1 ≤ 6) ∧ r.2.2.1.length ≤ 7 ∧ (r.2.2.2 = 4 ∨ -1 ≤ r.2.2.2 ∧ r.2.2.2 ≤ 2)) (fun k => spec_DrawSlowestDays.j0 k ps b i4 h4 m' w) := fun m' => by
    obtain ⟨n, i5, h5, e5, hn, _⟩ := int_ok b i4 h4 [0, 1, 2, 4, -1] (by decide) hc4
    refine Gets.step (f := fun _ => some (m', w, ps, n)) (fun k => by simp only [spec_DrawSlowestDays.j0, e5, Option.bind_some]) (Gets.now ⟨hw, by show ps.length ≤ 7; omega, ?_⟩)
    show n = 4 ∨ -1 ≤ n ∧ n ≤ 2
    simp at hn
    omega
  cases x with
  | true => simp only [if_true]; exact fin 9
  | false => simp only [Bool.false_eq_true, if_false]; exact fin m
theorem drawCount_ok (c : List Int) (hl : c.length ≤ 1048576) : Gets (fun r => r.2.2.1.length ≤ 15 ∧ r.2.2.2 ≤ 11) (fun k => spec_DrawCountWeathers.f k c) := by
  unfold spec_DrawCountWeathers.f
  refine Gets.bind (new_ok c hl) ?_
  rintro ⟨b, i, h⟩ ⟨rfl, hc⟩
  refine Gets.bind (any6_ok b i h hc) ?_
  rintro ⟨m, w, ps, i1, h1⟩ ⟨hp, hc1⟩
  simp only at hp hc1 ⊢
  obtain ⟨n, i2, h2, e2, hn, _⟩ := int_ok b i1 h1 [0, 1, 2, 4, 7, 10, 11, -1] (by decide) hc1
  simp only [e2, Option.bind_some]
  refine Gets.now ⟨hp, ?_⟩
  show n ≤ 11
  simp at hn
  omega
theorem drawKeeps_ok (c : List Int) (hl : c.length ≤ 1048576) : Gets (fun r => r.2.2.length ≤ 15) (fun k => spec_DrawKeeps.f k c) := by
  unfold spec_DrawKeeps.f
  refine Gets.bind (new_ok c hl) ?_
  rintro ⟨b, i, h⟩ ⟨rfl, hc⟩
  refine Gets.bind (any6_ok b i h hc) ?_
  rintro ⟨m, w, ps, i1, h1⟩ ⟨hp, hc1⟩
  exact Gets.now hp
theorem drawLongest_ok (c : List Int) (hl : c.length ≤ 1048576) : Gets (fun r => r.2.2.length ≤ 15) (fun k => spec_DrawLongestStorm.f k c) := by
  unfold spec_DrawLongestStorm.f
  refine Gets.bind (drawKeeps_ok c hl) ?_
  rintro ⟨m, w, ps⟩ hp
  exact Gets.now hp
theorem storms10_down (b : List Int) (N : Nat) (hN : N ≤ 1000) : ∀ (n : Nat) (xs : List Bool) (i h : Int), xs.length + n = N → OkC b i → Gets (fun r => r.1.length = N ∧ OkC b r.2.1) (fun k => spec_l10Storms.l0 k (N : Int) xs (xs.length : Int) b i h)
  | 0, xs, i, h, hn, hc => by
    refine Gets.step (f := fun _ => some (xs, i, h)) (fun k => ?_) (Gets.now ⟨by simpa using hn, hc⟩)
    simp only [spec_l10Storms.l0]
    rw [if_neg (by omega)]
  | n + 1, xs, i, h, hn, hc => by
    obtain ⟨v, i1, h1, e1, hc1⟩ := once_ok b i h 4 hc
    have ih := storms10_down b N hN n (xs ++ [v]) i1 h1 (by simp; omega) hc1
    rw [List.length_append, List.length_singleton, show ((xs.length + 1 : Nat) : Int) = (xs.length : Int) + 1 from by omega] at ih
    refine Gets.step (fun k => ?_) ih
    simp only [spec_l10Storms.l0, e1, Option.bind_some, wrapi xs.length (by omega)]
    rw [if_pos (by omega), if_pos (by omega)]
theorem storms10_ok (b : List Int) (i h n : Int) (hn : 0 ≤ n ∧ n ≤ 1000) (hc : OkC b i) : Gets (fun r => (r.1.length : Int) = n ∧ OkC b r.2.1) (fun k => spec_l10Storms.f k b i h n) := by
  obtain ⟨N, rfl⟩ := Int.eq_ofNat_of_zero_le hn.1
  have := storms10_down b N (by omega) N [] i h (by simp) hc
  exact Gets.mono (fun r hr => ⟨by rw [hr.1], hr.2⟩) this
theorem thatDraw_down (b : List Int) (ps : List Bool) (m w : Int) : ∀ (n : Nat) (xs : List (List Bool)) (i h : Int), xs.length + n ≤ 100 → (∀ x ∈ xs, x.length ≤ 6) → OkC b i → Gets (fun r => r.2.2.1 = ps ∧ r.2.2.2.length ≤ 100 ∧ ∀ x ∈ r.2.2.2, x.length ≤ 6) (fun k => spec_DrawThatKeep.l0 k ps xs (n : Int) b i h m w)
  | 0, xs, i, h, hn, hx, hc => by
    refine Gets.step (f := fun _ => some (m, w, ps, xs)) (fun k => ?_) (Gets.now ⟨rfl, by show xs.length ≤ 100; omega, hx⟩)
    simp only [spec_DrawThatKeep.l0]
    rw [if_neg (by omega)]
  | n + 1, xs, i, h, hn, hx, hc => by
    obtain ⟨v, i1, h1, e1, a1, b1, hc1⟩ := below_ok b i h 6 hc
    have b1 := b1 (by omega)
    refine Gets.step (f := fun k => (spec_l10Storms.f k b i1 h1 v).bind fun bt365 => (if xs.length < 5864062014805 then (spec_DrawThatKeep.l0 k ps (xs ++ [bt365.1]) (n : Int) b bt365.2.1 bt365.2.2 m w) else (none))) (fun k => ?_) ?_
    · have hwn : wrap64 (n : Int) = (n : Int) := wrap_id (by omega) (by omega)
      simp only [spec_DrawThatKeep.l0, e1, Option.bind_some, show ((n + 1 : Nat) : Int) - 1 = (n : Int) from by omega, hwn]
      rw [if_pos (by omega)]
    · refine Gets.bind (storms10_ok b i1 h1 v (by omega) hc1) ?_
      rintro ⟨y, i2, h2⟩ ⟨hy, hc2⟩
      simp only at hy hc2 ⊢
      simp only [if_pos (show xs.length < 5864062014805 from by omega)]
      refine thatDraw_down b ps m w n (xs ++ [y]) i2 h2 (by simp; omega) (fun x hxm => ?_) hc2
      rcases List.mem_append.1 hxm with q | q
      · exact hx x q
      · rw [List.mem_singleton] at q; subst q; omega
theorem drawThat_ok (c : List Int) (hl : c.length ≤ 1048576) : Gets (fun r => r.2.2.1.length ≤ 15 ∧ r.2.2.2.length ≤ 100 ∧ ∀ x ∈ r.2.2.2, x.length ≤ 6) (fun k => spec_DrawThatKeep.f k c) := by
  unfold spec_DrawThatKeep.f
  refine Gets.bind (new_ok c hl) ?_
  rintro ⟨b, i, h⟩ ⟨rfl, hc⟩
  refine Gets.bind (any6_ok b i h hc) ?_
  rintro ⟨m, w, ps, i1, h1⟩ ⟨hp, hc1⟩
  simp only at hp hc1 ⊢
  obtain ⟨v, i2, h2, e2, a2, b2, hc2⟩ := below_ok b i1 h1 4 hc1
  have b2 := b2 (by omega)
  simp only [e2, Option.bind_some]
  obtain ⟨n, rfl⟩ := Int.eq_ofNat_of_zero_le a2
  exact Gets.mono (fun r hr => ⟨by rw [hr.1]; exact hp, hr.2⟩) (thatDraw_down b ps m w n [] i2 h2 (by simp; omega) (fun x hx => by simp at hx) hc2)
theorem drawFood_ok (c : List Int) (hl : c.length ≤ 1048576) : Gets (fun r => (-1 ≤ r.2.1 ∧ r.2.1 ≤ 10001) ∧ r.2.2.1.length ≤ 9) (fun k => spec_DrawFoodAfter.f k c) := by
  unfold spec_DrawFoodAfter.f
  refine Gets.bind (eat_ok c hl) ?_
  rintro ⟨at_, food, xs, ps⟩ ⟨hf, hx, _⟩
  refine Gets.bind (new_ok c hl) ?_
  rintro ⟨b, i, h⟩ ⟨rfl, hc⟩
  obtain ⟨v, i1, h1, e1, hv, _⟩ := int_ok _ i h [0, 1, 5, 20, 1000, 1001, -1] (by decide) hc
  simp only [e1, Option.bind_some]
  exact Gets.now ⟨hf, hx⟩
/-- For the drawn rules and pasts the greedy weather is the slowest: gone through one by one. -/
def exL : Nat → List (List Bool)
  | 0 => [[]]
  | n + 1 => (exL n).map (true :: ·) ++ (exL n).map (false :: ·)
theorem exL_mem : ∀ l : List Bool, l ∈ exL l.length
  | [] => by simp [exL]
  | x :: t => by
    have := exL_mem t
    show x :: t ∈ (exL t.length).map (true :: ·) ++ (exL t.length).map (false :: ·)
    cases x <;> simp [this]
def slowChk : Bool := (List.range 8).all fun n => (exL n).all fun l => (List.range 6).all fun w => (List.range (w + 1)).all fun m => (sd (m : Nat) ((w : Nat) + 1 : Int) 1 l == wd (m : Nat) ((w : Nat) + 1 : Int) 1 l) && (sd (m : Nat) ((w : Nat) + 1 : Int) 2 l == wd (m : Nat) ((w : Nat) + 1 : Int) 2 l)
theorem slowChk_true : slowChk = true := by decide +kernel
theorem slow_worst (m w : Int) (l : List Bool) (n : Nat) (hw : 1 ≤ w ∧ w ≤ 6) (hm : 0 ≤ m ∧ m < w) (hl : l.length ≤ 7) (hn : n ≤ 2) : sd m w n l = wd m w n l := by
  obtain ⟨m', rfl⟩ := Int.eq_ofNat_of_zero_le hm.1
  obtain ⟨w', rfl⟩ : ∃ w' : Nat, w = (w' : Int) + 1 := ⟨(w - 1).toNat, by omega⟩
  have h1 := List.all_eq_true.1 slowChk_true l.length (List.mem_range.2 (by omega))
  have h2 := List.all_eq_true.1 h1 l (exL_mem l)
  have h3 := List.all_eq_true.1 h2 w' (List.mem_range.2 (by omega))
  have h4 := List.all_eq_true.1 h3 m' (List.mem_range.2 (by omega))
  rw [Bool.and_eq_true] at h4
  simp only [beq_iff_eq] at h4
  have : n = 0 ∨ n = 1 ∨ n = 2 := by omega
  rcases this with rfl | rfl | rfl
  · rfl
  · exact h4.1
  · exact h4.2
theorem shl_pow (n : Int) (h : 0 ≤ n ∧ n ≤ 10) : shl .i64 1 n = ((2 ^ n.toNat : Nat) : Int) := by
  have : n = 0 ∨ n = 1 ∨ n = 2 ∨ n = 3 ∨ n = 4 ∨ n = 5 ∨ n = 6 ∨ n = 7 ∨ n = 8 ∨ n = 9 ∨ n = 10 := by omega
  rcases this with rfl | rfl | rfl | rfl | rfl | rfl | rfl | rfl | rfl | rfl | rfl <;> decide +kernel
def mFood (food : Int) (l : List S112) (d : Int) : Int := if mAreCrew l = true ∧ (0 ≤ d ∧ d ≤ 1000) then mx (food - d * mNeedOf l) (-1) else -1
theorem prod_range (a b : Int) (ha : 0 ≤ a ∧ a ≤ 1000) (hb : 0 ≤ b ∧ b ≤ 80) : 0 ≤ a * b ∧ a * b ≤ 80000 := by
  refine ⟨Int.mul_nonneg ha.1 hb.1, ?_⟩
  have h1 : a * b ≤ 1000 * b := Int.mul_le_mul_of_nonneg_right ha.2 hb.1
  omega
theorem implFA_ev (a food : Int) (l : List S112) (p : List Bool) (d : Int) (hl : l.length ≤ 1048576) (hf : -1 ≤ food ∧ food ≤ 10001) : Ev (fun k => impl_FoodAfter.f k a food l p d) (mFood food l d) := by
  unfold impl_FoodAfter.f mFood
  refine Ev.bind (ev_at (implAC_at l (by omega))) ?_
  cases hc : mAreCrew l with
  | false => simp only [Bool.false_eq_true, if_false, false_and]; exact Ev.now _
  | true =>
    simp only [if_true, InRange_eq, Option.bind_some, true_and, decide_eq_true_eq]
    by_cases h : 0 ≤ d ∧ d ≤ 1000
    · simp only [if_pos h]
      refine Ev.bind (ev_at (implNeedOf_at l (by omega))) ?_
      have hn := mNeedOf_range l
      have hp := prod_range d (mNeedOf l) h hn
      rw [wrap_id (n := d * mNeedOf l) (by omega) (by omega), wrap_id (by omega) (by omega)]
      exact Ev.now _
    · simp only [if_neg h]; exact Ev.now _
theorem implTK_ev (m w : Int) (past : List Bool) (l : List (List Bool)) (hp : past.length ≤ 1048576) (hl : l.length ≤ 1048576) (hr : ∀ x ∈ l, x.length ≤ 1048576) : Ev (fun k => impl_ThatKeep.f k m w past l) (thatN m w past l) := by
  have e2 := implTK_down m w past l hp hl hr l [] 0 rfl (Int.le_refl 0) (Int.le_refl 0)
  rw [Int.zero_add] at e2
  exact e2
end FnWeathersPf
open FnWeathersPf
theorem FnWeathers : laws_FnWeathers.Pure := by
  intro c hl hs hw
  apply Ev.rounds (g := fun k => laws_FnWeathers.f k c)
  unfold laws_FnWeathers.f
  simp only [laws_big.f, Option.bind_some, decide_eq_true_eq]
  by_cases hb : (c.length : Int) > 1048576
  · simp only [if_pos hb]
    exact Ev.now _
  · simp only [if_neg hb]
    have hb : c.length ≤ 1048576 := by omega
    have hj3 : Ev (fun k => laws_FnWeathers.j3 k true) true := Ev.step (f := fun _ => some true) (fun k => rfl) (Ev.now _)
    have hj2 : Ev (fun k => laws_FnWeathers.j2 k c false) true := by
      refine Ev.step (f := fun k => (spec_DrawThatKeep.f k c).bind fun bt724 => ((impl_ThatKeep.f k bt724.1 bt724.2.1 bt724.2.2.1 bt724.2.2.2).bind fun t733 => ((spec_DrawFoodAfter.f k c).bind fun bt734 => ((impl_FoodAfter.f k bt734.1 bt734.2.1 bt734.2.2.1 bt734.2.2.2.1 bt734.2.2.2.2).bind fun t744 => (if t733 ≥ 0 then (if t733 ≤ (bt724.2.2.2.length : Int) then (if t744 < 0 then (laws_FnWeathers.j3 k true) else ((impl_NeedOf.f k bt734.2.2.1).bind fun t745 => (laws_FnWeathers.j3 k ((wrap64 (t744 + (wrap64 (bt734.2.2.2.2 * t745)))) == bt734.2.1)))) else (laws_FnWeathers.j3 k false)) else (laws_FnWeathers.j3 k false)))))) (fun k => by simp only [laws_FnWeathers.j2, Bool.false_eq_true, if_false]) ?_
      refine Gets.ev (drawThat_ok c hb) ?_
      rintro ⟨m, w, ps, ls⟩ ⟨hp, hn, hx⟩
      simp only at hp hn hx ⊢
      refine Ev.bind (implTK_ev m w ps ls (by omega) (by omega) (fun x hxm => by have := hx x hxm; omega)) ?_
      refine Gets.ev (drawFood_ok c hb) ?_
      rintro ⟨a, food, xs, qs, d⟩ ⟨hf, hxs⟩
      simp only at hf hxs ⊢
      refine Ev.bind (implFA_ev a food xs qs d (by omega) hf) ?_
      have ht := thatN_range m w ps ls
      simp only [if_pos (show thatN m w ps ls ≥ 0 from ht.1), if_pos ht.2]
      by_cases c0 : mFood food xs d < 0
      · simp only [if_pos c0]; exact hj3
      · simp only [if_neg c0]
        refine Ev.bind (ev_at (implNeedOf_at xs (by omega))) ?_
        unfold mFood at c0 ⊢
        by_cases q : mAreCrew xs = true ∧ (0 ≤ d ∧ d ≤ 1000)
        · rw [if_pos q] at c0 ⊢
          have hnr := mNeedOf_range xs
          have hpr := prod_range d (mNeedOf xs) q.2 hnr
          have e : mx (food - d * mNeedOf xs) (-1) = food - d * mNeedOf xs := by
            unfold mx at c0 ⊢
            split
            · rename_i h'; rw [if_pos h'] at c0; omega
            · rfl
          rw [e, wrap_id (n := d * mNeedOf xs) (by omega) (by omega), show food - d * mNeedOf xs + d * mNeedOf xs = food from by omega, wrap_id (by omega) (by omega)]
          simp only [beq_self_eq_true]
          exact hj3
        · rw [if_neg q] at c0; omega
    have hj1 : Ev (fun k => laws_FnWeathers.j1 k c false) true := by
      refine Ev.step (f := fun k => (spec_DrawLongestStorm.f k c).bind fun bt716 => ((impl_LongestStorm.f k bt716.1 bt716.2.1 bt716.2.2).bind fun t722 => ((impl_IsRule.f bt716.1 bt716.2.1).bind fun t723 => (if t723 = true then (if t722 > bt716.1 then (laws_FnWeathers.j2 k c true) else (laws_FnWeathers.j2 k c (decide (t722 < 0)))) else (laws_FnWeathers.j2 k c (decide (t722 < 0))))))) (fun k => by simp only [laws_FnWeathers.j1, Bool.false_eq_true, if_false]) ?_
      refine Gets.ev (drawLongest_ok c hb) ?_
      rintro ⟨m, w, ps⟩ hp
      simp only at hp ⊢
      refine Ev.bind (implLS_ev m w ps (by omega)) ?_
      simp only [implRule_eq, Option.bind_some, decide_eq_true_eq]
      have hnn : ¬ mLongest m w ps < 0 := by unfold mLongest; split <;> omega
      by_cases r : ruleOk m w
      · have hle := longest_le m w m.toNat ps
        have hm := r.2
        have : ¬ mLongest m w ps > m := by unfold mLongest; rw [if_pos r]; omega
        simp only [if_pos r, if_neg this, decide_eq_false hnn]
        exact hj2
      · simp only [if_neg r, decide_eq_false hnn]
        exact hj2
    have hj0 : Ev (fun k => laws_FnWeathers.j0 k c false) true := by
      refine Ev.step (f := fun k => (spec_DrawCountWeathers.f k c).bind fun bt707 => ((impl_CountWeathers.f k bt707.1 bt707.2.1 bt707.2.2.1 bt707.2.2.2).bind fun t714 => ((impl_IsRule.f bt707.1 bt707.2.1).bind fun t715 => (if t715 = true then (if bt707.2.2.2 ≥ 0 then (if bt707.2.2.2 ≤ 10 then (if t714 < 1 then (laws_FnWeathers.j1 k c true) else (if 0 ≤ bt707.2.2.2 then (laws_FnWeathers.j1 k c (decide (t714 > (shl .i64 1 bt707.2.2.2)))) else (none))) else (laws_FnWeathers.j1 k c false)) else (laws_FnWeathers.j1 k c false)) else (laws_FnWeathers.j1 k c false))))) (fun k => by simp only [laws_FnWeathers.j0, Bool.false_eq_true, if_false]) ?_
      refine Gets.ev (drawCount_ok c hb) ?_
      rintro ⟨m, w, ps, n⟩ ⟨hp, hn⟩
      simp only at hp hn ⊢
      refine Ev.bind (implCW_ev m w ps n (by omega)) ?_
      simp only [implRule_eq, Option.bind_some, decide_eq_true_eq]
      by_cases r : ruleOk m w
      · simp only [if_pos r]
        by_cases c0 : n ≥ 0
        · simp only [if_pos c0]
          by_cases c1 : n ≤ 10
          · simp only [if_pos c1]
            have hcw := cw_range m w n.toNat ps
            have e : mWeathers m w ps n = cw m w n.toNat ps := by unfold mWeathers; rw [if_pos ⟨r, c0, c1⟩]
            simp only [e, if_neg (show ¬ cw m w n.toNat ps < 1 from by omega), if_pos (show 0 ≤ n from c0), shl_pow n ⟨c0, c1⟩, decide_eq_false (show ¬ cw m w n.toNat ps > ((2 ^ n.toNat : Nat) : Int) from by omega)]
            exact hj1
          · simp only [if_neg c1]; exact hj1
        · simp only [if_neg c0]; exact hj1
      · simp only [if_neg r]; exact hj1
    refine Gets.ev (drawSlow_ok c hb) ?_
    rintro ⟨m, w, ps, n⟩ ⟨hw6, hp, hn⟩
    simp only at hw6 hp hn ⊢
    refine Ev.bind (implSD_ev m w ps n (by omega)) ?_
    by_cases c0 : mSlowest m w ps n ≥ 0
    · simp only [if_pos c0]
      refine Ev.bind (implWD_ev m w ps n (by omega)) ?_
      have e : mSlowest m w ps n = mWorst m w ps n := by
        unfold mSlowest mWorst at *
        by_cases q : ruleOk m w ∧ 0 ≤ n ∧ n ≤ 3
        · obtain ⟨r, hn0, hn3⟩ := q
          have hm := r.2
          rw [if_pos ⟨r, hn0, hn3⟩, if_pos ⟨r, ⟨hn0, by omega⟩, by omega⟩]
          exact slow_worst m w ps n.toNat hw6 ⟨hm.1, by omega⟩ hp (by omega)
        · rw [if_neg q] at c0; omega
      rw [e]
      simp only [bne_self_eq_false]
      exact hj0
    · simp only [if_neg c0]
      exact hj0
end Go.Proofs.Ytcbkknpmeknppaa.Pure
