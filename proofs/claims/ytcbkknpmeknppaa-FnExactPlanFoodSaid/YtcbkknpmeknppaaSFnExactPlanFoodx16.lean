/- Contracts of functions that the law FnExactPlanFood reaches, for its row: lines that the kit's printer wrote for this claim, set shorter by a program of this session (own.py), and what fell in Lean proved anew. Lean checks them. -/
import Derived.Test.YtcbkknpmeknppaaSFnExactPlanFoodx0
import Derived.Test.YtcbkknpmeknppaaSFnExactPlanFoodx10
namespace Go.Proofs.Ytcbkknpmeknppaa.PFnExactPlanFood
open Go.RowKit Go.Proofs.YtcbkknpmeknppaaW.PrintWords Go.Proofs.YtcbkknpmeknppaaW.PrintLast Go.Proofs.YtcbkknpmeknppaaW.PrintMore
attribute [local go_sem] max2_int min2_int max_two min_two max_three min_three max_four min_four   -- for this text's walks alone
set_option linter.unusedVariables false
set_option linter.unusedSimpArgs false

abbrev m0_16 : Array Bool := #[Z,Z,Z,Z,Z,Z,Z,Z,Z,Z,Z,Z,Z,Z,Z,Z,Z,Z,Z,Z,Z,Z,Z,Z,Z,Z,Z,Z,Z,Z,Z,Z,Z,Z,Z,Z,Z,Z,Z,Z,Z,Z,Z]
abbrev m1_16 : Array Bool := #[Y,Z,Z,Z,Z,Z,Z,Z,Z,Z,Z,Z,Z,Z,Z,Z,Z,Z,Z,Z,Z,Z,Z,Z,Z,Z,Z,Z,Z,Z,Z,Z,Z,Z,Z,Z,Z,Z,Z,Z,Z,Z,Z]
abbrev m2_16 : Array Bool := #[Y,Y,Z,Z,Z,Z,Z,Z,Z,Z,Z,Z,Z,Z,Z,Z,Z,Z,Z,Z,Z,Z,Z,Z,Z,Z,Z,Z,Z,Z,Z,Z,Z,Z,Z,Z,Z,Z,Z,Z,Z,Z,Z]
abbrev m3_16 : Array Bool := #[Y,Y,Y,Z,Z,Z,Z,Z,Z,Z,Z,Z,Z,Z,Z,Z,Z,Z,Z,Z,Z,Z,Z,Z,Z,Z,Z,Z,Z,Z,Z,Z,Z,Z,Z,Z,Z,Z,Z,Z,Z,Z,Z]
abbrev m4_16 : Array Bool := #[Y,Y,Y,Y,Z,Z,Z,Z,Z,Z,Z,Z,Z,Z,Z,Z,Z,Z,Z,Z,Z,Z,Z,Z,Z,Z,Z,Z,Z,Z,Z,Z,Z,Z,Z,Z,Z,Z,Z,Z,Z,Z,Z]
abbrev m5_16 : Array Bool := #[Y,Y,Y,Y,Y,Z,Z,Z,Z,Z,Z,Z,Z,Z,Z,Z,Z,Z,Z,Z,Z,Z,Z,Z,Z,Z,Z,Z,Z,Z,Z,Z,Z,Z,Z,Z,Z,Z,Z,Z,Z,Z,Z]
abbrev m6_16 : Array Bool := #[Y,Y,Y,Y,Y,Y,Z,Z,Z,Z,Z,Z,Z,Z,Z,Z,Z,Z,Z,Z,Z,Z,Z,Z,Z,Z,Z,Z,Z,Z,Z,Z,Z,Z,Z,Z,Z,Z,Z,Z,Z,Z,Z]
abbrev m7_16 : Array Bool := #[Y,Y,Y,Y,Y,Y,Y,Z,Z,Z,Z,Z,Z,Z,Z,Z,Z,Z,Z,Z,Z,Z,Z,Z,Z,Z,Z,Z,Z,Z,Z,Z,Z,Z,Z,Z,Z,Z,Z,Z,Z,Z,Z]
abbrev m8_16 : Array Bool := #[Y,Y,Y,Y,Y,Y,Y,Y,Z,Z,Z,Z,Z,Z,Z,Z,Z,Z,Z,Z,Z,Z,Z,Z,Z,Z,Z,Z,Z,Z,Z,Z,Z,Z,Z,Z,Z,Z,Z,Z,Z,Z,Z]
abbrev m9_16 : Array Bool := #[Y,Y,Y,Y,Y,Y,Y,Y,Y,Z,Z,Z,Z,Z,Z,Z,Z,Z,Z,Z,Z,Z,Z,Z,Z,Z,Z,Z,Z,Z,Z,Z,Z,Z,Z,Z,Z,Z,Z,Z,Z,Z,Z]
abbrev m10_16 : Array Bool := #[Y,Y,Y,Y,Y,Y,Y,Y,Y,Y,Z,Z,Z,Z,Z,Z,Z,Z,Z,Z,Z,Z,Z,Z,Z,Z,Z,Z,Z,Z,Z,Z,Z,Z,Z,Z,Z,Z,Z,Z,Z,Z,Z]
abbrev m11_16 : Array Bool := #[Y,Y,Y,Y,Y,Y,Y,Y,Y,Y,Y,Z,Z,Z,Z,Z,Z,Z,Z,Z,Z,Z,Z,Z,Z,Z,Z,Z,Z,Z,Z,Z,Z,Z,Z,Z,Z,Z,Z,Z,Z,Z,Z]
abbrev m12_16 : Array Bool := #[Y,Y,Y,Y,Y,Y,Y,Y,Y,Y,Y,Y,Z,Z,Z,Z,Z,Z,Z,Z,Z,Z,Z,Z,Z,Z,Z,Z,Z,Z,Z,Z,Z,Z,Z,Z,Z,Z,Z,Z,Z,Z,Z]
abbrev m13_16 : Array Bool := #[Y,Y,Y,Y,Y,Y,Y,Y,Y,Y,Y,Y,Y,Z,Z,Z,Z,Z,Z,Z,Z,Z,Z,Z,Z,Z,Z,Z,Z,Z,Z,Z,Z,Z,Z,Z,Z,Z,Z,Z,Z,Z,Z]
abbrev m14_16 : Array Bool := #[Y,Y,Y,Y,Y,Y,Y,Y,Y,Y,Y,Y,Y,Y,Z,Z,Z,Z,Z,Z,Z,Z,Z,Z,Z,Z,Z,Z,Z,Z,Z,Z,Z,Z,Z,Z,Z,Z,Z,Z,Z,Z,Z]
abbrev m15_16 : Array Bool := #[Y,Y,Y,Y,Y,Y,Y,Y,Y,Y,Y,Y,Y,Y,Y,Z,Z,Z,Z,Z,Z,Z,Z,Z,Z,Z,Z,Z,Z,Z,Z,Z,Z,Z,Z,Z,Z,Z,Z,Z,Z,Z,Z]
abbrev m16_16 : Array Bool := #[Y,Y,Y,Y,Y,Y,Y,Y,Y,Y,Y,Y,Y,Y,Y,Y,Z,Z,Z,Z,Z,Z,Z,Z,Z,Z,Z,Z,Z,Z,Z,Z,Z,Z,Z,Z,Z,Z,Z,Z,Z,Z,Z]
abbrev m17_16 : Array Bool := #[Y,Y,Y,Y,Y,Y,Y,Y,Y,Y,Y,Y,Y,Y,Y,Y,Y,Z,Z,Z,Z,Z,Z,Z,Z,Z,Z,Z,Z,Z,Z,Z,Z,Z,Z,Z,Z,Z,Z,Z,Z,Z,Z]
abbrev m18_16 : Array Bool := #[Y,Y,Y,Y,Y,Y,Y,Y,Y,Y,Y,Y,Y,Y,Y,Y,Y,Y,Z,Z,Z,Z,Z,Z,Z,Z,Z,Z,Z,Z,Z,Z,Z,Z,Z,Z,Z,Z,Z,Z,Z,Z,Z]
abbrev m19_16 : Array Bool := #[Y,Y,Y,Y,Y,Y,Y,Y,Y,Y,Y,Y,Y,Y,Y,Y,Y,Y,Y,Z,Z,Z,Z,Z,Z,Z,Z,Z,Z,Z,Z,Z,Z,Z,Z,Z,Z,Z,Z,Z,Z,Z,Z]
abbrev m20_16 : Array Bool := #[Y,Y,Y,Y,Y,Y,Y,Y,Y,Y,Y,Y,Y,Y,Y,Y,Y,Y,Y,Y,Z,Z,Z,Z,Z,Z,Z,Z,Z,Z,Z,Z,Z,Z,Z,Z,Z,Z,Z,Z,Z,Z,Z]
abbrev m21_16 : Array Bool := #[Y,Y,Y,Y,Y,Y,Y,Y,Y,Y,Y,Y,Y,Y,Y,Y,Y,Y,Y,Y,Y,Z,Z,Z,Z,Z,Z,Z,Z,Z,Z,Z,Z,Z,Z,Z,Z,Z,Z,Z,Z,Z,Z]
abbrev m22_16 : Array Bool := #[Y,Y,Y,Y,Y,Y,Y,Y,Y,Y,Y,Y,Y,Y,Y,Y,Y,Y,Y,Y,Y,Y,Z,Z,Z,Z,Z,Z,Z,Z,Z,Z,Z,Z,Z,Z,Z,Z,Z,Z,Z,Z,Z]
abbrev m23_16 : Array Bool := #[Y,Y,Y,Y,Y,Y,Y,Y,Y,Y,Y,Y,Y,Y,Y,Y,Y,Y,Y,Y,Y,Y,Y,Z,Z,Z,Z,Z,Z,Z,Z,Z,Z,Z,Z,Z,Z,Z,Z,Z,Z,Z,Z]
abbrev m24_16 : Array Bool := #[Y,Y,Y,Y,Y,Y,Y,Y,Y,Y,Y,Y,Y,Y,Y,Y,Y,Y,Y,Y,Y,Y,Y,Y,Z,Z,Z,Z,Z,Z,Z,Z,Z,Z,Z,Z,Z,Z,Z,Z,Z,Z,Z]
abbrev m25_16 : Array Bool := #[Y,Y,Y,Y,Y,Y,Y,Y,Y,Y,Y,Y,Y,Y,Y,Y,Y,Y,Y,Y,Y,Y,Y,Y,Y,Z,Z,Z,Z,Z,Z,Z,Z,Z,Z,Z,Z,Z,Z,Z,Z,Z,Z]
abbrev m26_16 : Array Bool := #[Y,Y,Y,Y,Y,Y,Y,Y,Y,Y,Y,Y,Y,Y,Y,Y,Y,Y,Y,Y,Y,Y,Y,Y,Y,Y,Z,Z,Z,Z,Z,Z,Z,Z,Z,Z,Z,Z,Z,Z,Z,Z,Z]
abbrev m27_16 : Array Bool := #[Y,Y,Y,Y,Y,Y,Y,Y,Y,Y,Y,Y,Y,Y,Y,Y,Y,Y,Y,Y,Y,Y,Y,Y,Y,Y,Y,Z,Z,Z,Z,Z,Z,Z,Z,Z,Z,Z,Z,Z,Z,Z,Z]
abbrev m28_16 : Array Bool := #[Y,Y,Y,Y,Y,Y,Y,Y,Y,Y,Y,Y,Y,Y,Y,Y,Y,Y,Y,Y,Y,Y,Y,Y,Y,Y,Y,Y,Z,Z,Z,Z,Z,Z,Z,Z,Z,Z,Z,Z,Z,Z,Z]
abbrev m29_16 : Array Bool := #[Y,Y,Y,Y,Y,Y,Y,Y,Y,Y,Y,Y,Y,Y,Y,Y,Y,Y,Y,Y,Y,Y,Y,Y,Y,Y,Y,Y,Y,Z,Z,Z,Z,Z,Z,Z,Z,Z,Z,Z,Z,Z,Z]
abbrev m30_16 : Array Bool := #[Y,Y,Y,Y,Y,Y,Y,Y,Y,Y,Y,Y,Y,Y,Y,Y,Y,Y,Y,Y,Y,Y,Y,Y,Y,Y,Y,Y,Y,Y,Z,Z,Z,Z,Z,Z,Z,Z,Z,Z,Z,Z,Z]
abbrev m31_16 : Array Bool := #[Y,Y,Y,Y,Y,Y,Y,Y,Y,Y,Y,Y,Y,Y,Y,Y,Y,Y,Y,Y,Y,Y,Y,Y,Y,Y,Y,Y,Y,Y,Y,Z,Z,Z,Z,Z,Z,Z,Z,Z,Z,Z,Z]
abbrev m32_16 : Array Bool := #[Y,Y,Y,Y,Y,Y,Y,Y,Y,Y,Y,Y,Y,Y,Y,Y,Y,Y,Y,Y,Y,Y,Y,Y,Y,Y,Y,Y,Y,Y,Y,Y,Z,Z,Z,Z,Z,Z,Z,Z,Z,Z,Z]
abbrev m33_16 : Array Bool := #[Y,Y,Y,Y,Y,Y,Y,Y,Y,Y,Y,Y,Y,Y,Y,Y,Y,Y,Y,Y,Y,Y,Y,Y,Y,Y,Y,Y,Y,Y,Y,Y,Y,Z,Z,Z,Z,Z,Z,Z,Z,Z,Z]
abbrev m34_16 : Array Bool := #[Y,Y,Y,Y,Y,Y,Y,Y,Y,Y,Y,Y,Y,Y,Y,Y,Y,Y,Y,Y,Y,Y,Y,Y,Y,Y,Y,Y,Y,Y,Y,Y,Y,Y,Z,Z,Z,Z,Z,Z,Z,Z,Z]
abbrev m35_16 : Array Bool := #[Y,Y,Y,Y,Y,Y,Y,Y,Y,Y,Y,Y,Y,Y,Y,Y,Y,Y,Y,Y,Y,Y,Y,Y,Y,Y,Y,Y,Y,Y,Y,Y,Y,Y,Y,Y,Y,Y,Y,Z,Z,Z,Z]
abbrev m36_16 : Array Bool := #[Y,Y,Y,Y,Y,Y,Y,Y,Y,Y,Y,Y,Y,Y,Y,Y,Y,Y,Y,Y,Y,Y,Y,Y,Y,Y,Y,Y,Y,Y,Y,Y,Y,Y,Y,Y,Y,Y,Y,Y,Z,Z,Z]
abbrev m37_16 : Array Bool := #[Y,Y,Y,Y,Y,Y,Y,Y,Y,Y,Y,Y,Y,Y,Y,Y,Y,Y,Y,Y,Y,Y,Y,Y,Y,Y,Y,Y,Y,Y,Y,Y,Y,Y,Y,Y,Y,Y,Y,Y,Y,Z,Z]
abbrev m38_16 : Array Bool := #[Y,Y,Y,Y,Y,Y,Y,Y,Y,Y,Y,Y,Y,Y,Y,Y,Y,Y,Y,Y,Y,Y,Y,Y,Y,Y,Y,Y,Y,Y,Y,Y,Y,Y,Y,Y,Y,Y,Y,Y,Y,Y,Z]
abbrev m39_16 : Array Bool := #[Y,Y,Y,Y,Y,Y,Y,Y,Y,Y,Y,Y,Y,Y,Y,Y,Y,Y,Y,Y,Y,Y,Y,Y,Y,Y,Y,Y,Y,Y,Y,Y,Y,Y,Y,Y,Y,Y,Y,Y,Y,Y,Y]
abbrev m40_16 : Array Bool := #[Y,Y,Y,Y,Y,Y,Y,Y,Y,Y,Y,Y,Y,Y,Y,Y,Y,Y,Y,Y,Y,Y,Y,Y,Y,Y,Y,Y,Y,Y,Y,Y,Y,Y,Y,Z,Z,Z,Z,Z,Z,Z,Z]
abbrev m41_16 : Array Bool := #[Y,Y,Y,Y,Y,Y,Y,Y,Y,Y,Y,Y,Y,Y,Y,Y,Y,Y,Y,Y,Y,Y,Y,Y,Y,Y,Y,Y,Y,Y,Y,Y,Y,Y,Y,Y,Z,Z,Z,Z,Z,Z,Z]
abbrev m42_16 : Array Bool := #[Y,Y,Y,Y,Y,Y,Y,Y,Y,Y,Y,Y,Y,Y,Y,Y,Y,Y,Y,Y,Y,Y,Y,Y,Y,Y,Y,Y,Y,Y,Y,Y,Y,Y,Y,Y,Y,Z,Z,Z,Z,Z,Z]
abbrev m43_16 : Array Bool := #[Y,Y,Y,Y,Y,Y,Y,Y,Y,Y,Y,Y,Y,Y,Y,Y,Y,Y,Y,Y,Y,Y,Y,Y,Y,Y,Y,Y,Y,Y,Y,Y,Y,Y,Y,Y,Y,Y,Z,Z,Z,Z,Z]
/-! ### spec_AreCrew: function 112 -/
mutual
def spec_AreCrew.l0 : Nat → List (S112) → Int → Option (Bool)
 | 0,_,_ => none
 | k + 1,x0,x3 => if x3 < (x0.length : Int) then (if 0 ≤ x3 then ((spec_l1In.f ((rd_T112 x0 x3).f0) 1 99).bind fun t453 => (if t453 = true then ((spec_l1In.f ((rd_T112 x0 x3).f1) 0 100).bind fun t455 => (if t455 = true then ((spec_l1In.f ((rd_T112 x0 x3).f2) 1 10).bind fun t457 => (if t457 = true then (if x3 > 0 then (if 0 ≤ (wrap64 (x3 - 1)) then (if (wrap64 (x3 - 1)) < (x0.length : Int) then (spec_AreCrew.j1 k x0 x3 (decide (((rd_T112 x0 (wrap64 (x3 - 1))).f0) ≥ ((rd_T112 x0 x3).f0)))) else (none)) else (none)) else (spec_AreCrew.j1 k x0 x3 false)) else (spec_AreCrew.j1 k x0 x3 true))) else (spec_AreCrew.j1 k x0 x3 true))) else (spec_AreCrew.j1 k x0 x3 true))) else (none)) else ((spec_l1In.f (x0.length : Int) 1 8).bind fun t460 => (some t460))
def spec_AreCrew.j1 : Nat → List (S112) → Int → Bool → Option (Bool)
 | 0,_,_,_ => none
 | k + 1,x0,x3,x52 => if x52 = true then (some false) else (spec_AreCrew.l0 k x0 (wrap64 (x3 + 1)))
end
def spec_AreCrew.f (k : Nat) (l0 : List (S112)) : Option (Bool) := spec_AreCrew.l0 k l0 0
def spec_AreCrew.T4 : Bool × List (List Nat × List Nat) := (true, [([], []), ([], []), ([0, 1], [0, 1]), ([2], [2]), ([3], [3]), ([4], [4]), ([5], [5]), ([6, 5], [6]), ([7], [7]), ([7], [7]), ([8, 9, 7], [7, 8, 9]), ([10, 7], [7, 10]), ([11, 7], [7, 11]), ([12, 7, 7], [7, 12]), ([13, 7], [7, 13]), ([7, 14], [7, 14]), ([15, 13], [15]), ([16], [16]), ([16], [16]), ([17, 18, 16], [16, 17, 18]), ([19, 16], [16, 19]), ([20, 16], [16, 20]), ([21, 16, 16], [16, 21]), ([22, 16], [16, 22]), ([16, 23], [16, 23]), ([24, 22], [24]), ([25], [25]), ([26, 25], [25, 26]), ([27, 25, 25], [25, 27]), ([28], [28]), ([28], [28]), ([30, 28], [28, 30]), ([29, 31, 28], [28, 29, 31]), ([32, 28], [28, 32]), ([33, 28], [28, 33]), ([28], [28]), ([28], [28]), ([35, 36, 28], [28, 35, 36]), ([37, 28], [28, 37]), ([38, 28], [28, 38]), ([34, 39, 28], [28, 34, 39]), ([28, 40, 25], [25, 28, 40]), ([25, 41], [25, 41])])
def spec_AreCrew.B4 : List Nat := [0, 0, 3, 7, 15, 31, 63, 127, 255, 255, 1023, 2047, 4095, 8191, 16383, 32767, 65535, 131071, 131071, 524287, 1048575, 2097151, 4194303, 8388607, 16777215, 33554431, 67108863, 134217727, 268435455, 536870911, 536870911, 1610612735, 4294967295, 8589934591, 17179869183, 536870911, 536870911, 103616086015, 241055039487, 515932946431, 1099511627775, 2199023255551, 4398046511103]
theorem spec_AreCrew.tab4 : rtab .any (opsOf Try.f112 4) = spec_AreCrew.T4 := by kernel_rfl
theorem spec_AreCrew.bits4 : waitsOk spec_AreCrew.T4.2 spec_AreCrew.B4 = true := by kernel_rfl
set_option maxHeartbeats 8000000 in
set_option maxRecDepth 100000 in
theorem spec_AreCrew.calls (k : Nat) (A0 : Option Addr) (c0 : Nat) (l0 : List (S112)) (r : Bool) (w : World) (hr0 : Kd.C k112 w A0 l0.length l0) (hc0 : l0.length ≤ c0) (h : spec_AreCrew.f k l0 = some r) :
  Calls Try.prog 112 #[.slice A0 l0.length c0] w fun e w' => e = .returned (.bool r) ∧ Below w.heap.size w w':=by
 have HR0:=am hr0;have HC0:=am hc0;clear hr0 hc0;have HB:=am qq465;have H : (spec_AreCrew.l0 k l0 0) = some r:=h;clear h;have H':=am H;clear H
 go_enter Try.func112,Try.ntmps112
 go_wp2
 go_loopg [3] k (fun kq v3 w' => ∃ (x3_1 : Int),v3 = .int .i64 x3_1 ∧ Aside0 (spec_AreCrew.l0 kq l0 x3_1 = some r) ∧ Aside0 (kq ≤ k) ∧ Aside0 (Below w.heap.size w w'))
 case atStart => exact ⟨(0),qq311,H',⟨Nat.le_refl _⟩,⟨qq208⟩⟩
 case round =>
  clear H'
  try clear c1
  obtain ⟨x3_1,rfl,HA,HK1,HB⟩:=hrel
  cases gk with
  | zero => exact absurd HA.out (by simp [spec_AreCrew.l0])
  | succ k1 =>
   have H:=HA.out;clear HA;simp only [spec_AreCrew.l0] at H
   by_cases c2 : x3_1 < (l0.length : Int)
   ·rw [if_pos c2] at H;have c2b0 : decide (x3_1 < (l0.length : Int)) = true:=decide_eq_true c2;clear c2;have HC3:=am H;clear H
    go_upto_region 4 with (fail)
    go_cut [52] (fun v52 wc => ∃ (kq : Nat) (x52_2 : Bool),v52 = .bool x52_2 ∧ Aside0 (spec_AreCrew.j1 kq l0 x3_1 x52_2 = some r) ∧ Aside0 (kq ≤ k1) ∧ Aside0 (Below w.heap.size w wc))
    case first =>
     have H:=HC3.out;clear HC3
     by_cases c4 : 0 ≤ x3_1
     ·rw [if_pos c4] at H;have c4b0 : decide (0 ≤ x3_1) = true:=decide_eq_true c4;clear c4;(first | rw [c4b0] | (simp only [i64_w,i32_w];rw [c4b0]) | skip);replace H:=bS.mp H;obtain ⟨t453,A50,H⟩:=H;(try dsimp only at H);have A5:=am A50;clear A50
      by_cases c6 : t453 = true
      ·subst c6;rw [if_pos rfl] at H;replace H:=bS.mp H;obtain ⟨t455,A70,H⟩:=H;(try dsimp only at H);have A7:=am A70;clear A70
       by_cases c8 : t455 = true
       ·subst c8;rw [if_pos rfl] at H;replace H:=bS.mp H;obtain ⟨t457,A90,H⟩:=H;(try dsimp only at H);have A9:=am A90;clear A90
        by_cases c10 : t457 = true
        ·subst c10;rw [if_pos rfl] at H
         by_cases c11 : x3_1 > 0
         ·rw [if_pos c11] at H;have c11b0 : decide (0 < x3_1) = true:=decide_eq_true c11;clear c11;obtain ⟨ji12,hji12⟩ : ∃ j_ : Int,(wrap64 (x3_1 - 1)) = j_:=⟨_,rfl⟩
          replace H : (if 0 ≤ (ji12) then (if (ji12) < (l0.length : Int) then (spec_AreCrew.j1 k1 l0 x3_1 (decide (((rd_T112 l0 (ji12)).f0) ≥ ((rd_T112 l0 x3_1).f0)))) else (none)) else (none)) = some r:=by first | (rw [hji12] at H;exact H) | (simp only [hji12] at H ⊢;exact H)
          (try rw [hji12] at A5);(try rw [hji12] at A7);(try rw [hji12] at A9);have hji12w : (IntKind.i64.wrap (x3_1 - 1)) = ji12:=(i64_w _).trans hji12
          by_cases c13 : 0 ≤ (ji12)
          ·rw [if_pos c13] at H;have c13b0 : decide (0 ≤ (ji12)) = true:=decide_eq_true c13;clear c13
           by_cases c14 : (ji12) < (l0.length : Int)
           ·rw [if_pos c14] at H;have c14b0 : decide ((ji12) < (l0.length : Int)) = true:=decide_eq_true c14;clear c14;have H':=am H;clear H
            try go_wp2
            replace HB:=am qq519;have p452 : 0 ≤ (x3_1 : Int):=odt qq309;have q452 : x3_1 < (l0.length : Int):=odt qq309;obtain ⟨ad452,e452,hx452_0,hx452_1,hx452_2,hx452_3⟩:=at_T112 HR0.out x3_1 p452 q452;have hw452_3:=hx452_3;have hw452_2:=hx452_2;have hw452_1:=hx452_1;have hw452_0:=hx452_0
            cases e452
            replace hx452_0:=(ct HB.out hx452_0 :)
            replace hx452_1:=(ct HB.out hx452_1 :)
            replace hx452_2:=(ct HB.out hx452_2 :)
            replace hx452_3:=(ct HB.out hx452_3 :)
            replace p452:=eq_true p452;replace q452:=eq_true q452;have p454 : 0 ≤ (x3_1 : Int):=odt qq309;have q454 : x3_1 < (l0.length : Int):=odt qq309;obtain ⟨ad454,e454,hx454_0,hx454_1,hx454_2,hx454_3⟩:=at_T112 HR0.out x3_1 p454 q454;have hw454_3:=hx454_3;have hw454_2:=hx454_2;have hw454_1:=hx454_1;have hw454_0:=hx454_0;obtain rfl : ad452 = ad454:=(by injection e454)
            replace hx454_0:=(ct HB.out hx454_0 :)
            replace hx454_1:=(ct HB.out hx454_1 :)
            replace hx454_2:=(ct HB.out hx454_2 :)
            replace hx454_3:=(ct HB.out hx454_3 :)
            replace p454:=eq_true p454;replace q454:=eq_true q454;have p456 : 0 ≤ (x3_1 : Int):=odt qq309;have q456 : x3_1 < (l0.length : Int):=odt qq309;obtain ⟨ad456,e456,hx456_0,hx456_1,hx456_2,hx456_3⟩:=at_T112 HR0.out x3_1 p456 q456;have hw456_3:=hx456_3;have hw456_2:=hx456_2;have hw456_1:=hx456_1;have hw456_0:=hx456_0;obtain rfl : ad452 = ad456:=(by injection e456)
            replace hx456_0:=(ct HB.out hx456_0 :)
            replace hx456_1:=(ct HB.out hx456_1 :)
            replace hx456_2:=(ct HB.out hx456_2 :)
            replace hx456_3:=(ct HB.out hx456_3 :)
            replace p456:=eq_true p456;replace q456:=eq_true q456;have p458 : 0 ≤ ((ji12) : Int):=odt qq309;have q458 : (ji12) < (l0.length : Int):=odt qq309;obtain ⟨ad458,e458,hx458_0,hx458_1,hx458_2,hx458_3⟩:=at_T112 HR0.out (ji12) p458 q458;have hw458_3:=hx458_3;have hw458_2:=hx458_2;have hw458_1:=hx458_1;have hw458_0:=hx458_0;obtain rfl : ad452 = ad458:=(by injection e458)
            replace hx458_0:=(ct HB.out hx458_0 :)
            replace hx458_1:=(ct HB.out hx458_1 :)
            replace hx458_2:=(ct HB.out hx458_2 :)
            replace hx458_3:=(ct HB.out hx458_3 :)
            replace p458:=eq_true p458;replace q458:=eq_true q458;have p459 : 0 ≤ (x3_1 : Int):=odt qq309;have q459 : x3_1 < (l0.length : Int):=odt qq309;obtain ⟨ad459,e459,hx459_0,hx459_1,hx459_2,hx459_3⟩:=at_T112 HR0.out x3_1 p459 q459;have hw459_3:=hx459_3;have hw459_2:=hx459_2;have hw459_1:=hx459_1;have hw459_0:=hx459_0;obtain rfl : ad452 = ad459:=(by injection e459)
            replace hx459_0:=(ct HB.out hx459_0 :)
            replace hx459_1:=(ct HB.out hx459_1 :)
            replace hx459_2:=(ct HB.out hx459_2 :)
            replace hx459_3:=(ct HB.out hx459_3 :)
            replace p459:=eq_true p459;replace q459:=eq_true q459;refine start_ (n:=43) (S:=fun w' => w'.cell? (ad452.add ((x3_1).toNat * 4)) = some (.int .i64 ((rd_T112 l0 x3_1).f0)) ∧ w'.cell? ⟨(ad452.add ((x3_1).toNat * 4)).block,(ad452.add ((x3_1).toNat * 4)).off + 1,none⟩ = some (.int .i64 ((rd_T112 l0 x3_1).f1)) ∧ w'.cell? ⟨(ad452.add ((x3_1).toNat * 4)).block,(ad452.add ((x3_1).toNat * 4)).off + 2,none⟩ = some (.int .i64 ((rd_T112 l0 x3_1).f2)) ∧ w'.cell? ⟨(ad452.add ((x3_1).toNat * 4)).block,(ad452.add ((x3_1).toNat * 4)).off + 3,none⟩ = some (.bool ((rd_T112 l0 x3_1).f3)) ∧ w'.cell? (ad452.add ((x3_1).toNat * 4)) = some (.int .i64 ((rd_T112 l0 x3_1).f0)) ∧ w'.cell? ⟨(ad452.add ((x3_1).toNat * 4)).block,(ad452.add ((x3_1).toNat * 4)).off + 1,none⟩ = some (.int .i64 ((rd_T112 l0 x3_1).f1)) ∧ w'.cell? ⟨(ad452.add ((x3_1).toNat * 4)).block,(ad452.add ((x3_1).toNat * 4)).off + 2,none⟩ = some (.int .i64 ((rd_T112 l0 x3_1).f2)) ∧ w'.cell? ⟨(ad452.add ((x3_1).toNat * 4)).block,(ad452.add ((x3_1).toNat * 4)).off + 3,none⟩ = some (.bool ((rd_T112 l0 x3_1).f3)) ∧ w'.cell? (ad452.add ((x3_1).toNat * 4)) = some (.int .i64 ((rd_T112 l0 x3_1).f0)) ∧ w'.cell? ⟨(ad452.add ((x3_1).toNat * 4)).block,(ad452.add ((x3_1).toNat * 4)).off + 1,none⟩ = some (.int .i64 ((rd_T112 l0 x3_1).f1)) ∧ w'.cell? ⟨(ad452.add ((x3_1).toNat * 4)).block,(ad452.add ((x3_1).toNat * 4)).off + 2,none⟩ = some (.int .i64 ((rd_T112 l0 x3_1).f2)) ∧ w'.cell? ⟨(ad452.add ((x3_1).toNat * 4)).block,(ad452.add ((x3_1).toNat * 4)).off + 3,none⟩ = some (.bool ((rd_T112 l0 x3_1).f3)) ∧ w'.cell? (ad452.add (((ji12)).toNat * 4)) = some (.int .i64 ((rd_T112 l0 (ji12)).f0)) ∧ w'.cell? ⟨(ad452.add (((ji12)).toNat * 4)).block,(ad452.add (((ji12)).toNat * 4)).off + 1,none⟩ = some (.int .i64 ((rd_T112 l0 (ji12)).f1)) ∧ w'.cell? ⟨(ad452.add (((ji12)).toNat * 4)).block,(ad452.add (((ji12)).toNat * 4)).off + 2,none⟩ = some (.int .i64 ((rd_T112 l0 (ji12)).f2)) ∧ w'.cell? ⟨(ad452.add (((ji12)).toNat * 4)).block,(ad452.add (((ji12)).toNat * 4)).off + 3,none⟩ = some (.bool ((rd_T112 l0 (ji12)).f3)) ∧ w'.cell? (ad452.add ((x3_1).toNat * 4)) = some (.int .i64 ((rd_T112 l0 x3_1).f0)) ∧ w'.cell? ⟨(ad452.add ((x3_1).toNat * 4)).block,(ad452.add ((x3_1).toNat * 4)).off + 1,none⟩ = some (.int .i64 ((rd_T112 l0 x3_1).f1)) ∧ w'.cell? ⟨(ad452.add ((x3_1).toNat * 4)).block,(ad452.add ((x3_1).toNat * 4)).off + 2,none⟩ = some (.int .i64 ((rd_T112 l0 x3_1).f2)) ∧ w'.cell? ⟨(ad452.add ((x3_1).toNat * 4)).block,(ad452.add ((x3_1).toNat * 4)).off + 3,none⟩ = some (.bool ((rd_T112 l0 x3_1).f3))) (ds:=[]) m0_16 (by kernel_rfl) rfl rfl ⟨(ct HB.out hw452_0 :),(ct HB.out hw452_1 :),(ct HB.out hw452_2 :),(ct HB.out hw452_3 :),(ct HB.out hw454_0 :),(ct HB.out hw454_1 :),(ct HB.out hw454_2 :),(ct HB.out hw454_3 :),(ct HB.out hw456_0 :),(ct HB.out hw456_1 :),(ct HB.out hw456_2 :),(ct HB.out hw456_3 :),(ct HB.out hw458_0 :),(ct HB.out hw458_1 :),(ct HB.out hw458_2 :),(ct HB.out hw458_3 :),(ct HB.out hw459_0 :),(ct HB.out hw459_1 :),(ct HB.out hw459_2 :),(ct HB.out hw459_3 :)⟩ (fun hHeld => ?_);refine with_tabW spec_AreCrew.tab4 spec_AreCrew.bits4 (fun HT_ HW_ => ?_)
            generalize wr.drew = w15 at HB hx452_0 hx452_1 hx452_2 hx452_3 hx454_0 hx454_1 hx454_2 hx454_3 hx456_0 hx456_1 hx456_2 hx456_3 hx458_0 hx458_1 hx458_2 hx458_3 hx459_0 hx459_1 hx459_2 hx459_3 hHeld ⊢
            refine pV (i:=0) (N:=some 10) m1_16 rfl rfl qT ?_
            refine pV (i:=1) (N:=some 11) m2_16 rfl rfl qT ?_
            refine pV (i:=2) (N:=some 12) m3_16 rfl rfl qT ?_
            refine pV (i:=3) (N:=some 13) m4_16 rfl rfl qT ?_
            refine take_ (i:=4) (N:=some 14) (v:=?_) (a':=?_) m5_16 rfl rfl (take_ofW HT_.out HW_.out (by kernel_rfl)) (fun _ _ _ h => h) (Or.inl ⟨by rfl,?_⟩) hHeld ?_ ?_;rotate_left
            ·rintro w' ⟨s0,s1,s2,s3,s4,s5,s6,s7,s8,s9,s10,s11,s12,s13,s14,s15,s16,s17,s18,s19⟩
             go_simp;with_reducible rfl
            rotate_left
            ·simp only [Act.put,sA,s0,s1,i64_w,i32_w];rfl
            refine one_ (i:=5) (N:=some 15) m6_16 rfl rfl (one_of HT_.out (by kernel_rfl)) (by decide) (fun K hK => ?_);refine goes_ Try.func104 (by kernel_rfl) rfl #[.int .i64 ((rd_T112 l0 x3_1).f0),.int .i64 1,.int .i64 99] (by rfl) rfl rfl qq187 ?_;with_reducible refine (spec_l1In.calls ((rd_T112 l0 x3_1).f0) 1 99 true _ A5.out).mono ?_
            rintro e w' ⟨rfl,⟨nd,rfl⟩⟩
            refine ⟨_,rfl,?_⟩;refine hK.out _ _ ⟨(ct HB.out hw452_0 :),(ct HB.out hw452_1 :),(ct HB.out hw452_2 :),(ct HB.out hw452_3 :),(ct HB.out hw454_0 :),(ct HB.out hw454_1 :),(ct HB.out hw454_2 :),(ct HB.out hw454_3 :),(ct HB.out hw456_0 :),(ct HB.out hw456_1 :),(ct HB.out hw456_2 :),(ct HB.out hw456_3 :),(ct HB.out hw458_0 :),(ct HB.out hw458_1 :),(ct HB.out hw458_2 :),(ct HB.out hw458_3 :),(ct HB.out hw459_0 :),(ct HB.out hw459_1 :),(ct HB.out hw459_2 :),(ct HB.out hw459_3 :)⟩ (fun hHeld => ?_);clear hK K;refine norm_ (a':=?_) ?_ ?_;rotate_left
            ·show Act.put _ (some 15) _ = _
             simp only [Act.put,sA,s0,s1,i64_w,i32_w];rfl
            refine pV (i:=6) (N:=some 16) m7_16 rfl rfl qT ?_
            refine pV (i:=7) (N:=some 17) m8_16 rfl rfl qT ?_
            refine pV (i:=8) (N:=some 18) m9_16 rfl rfl qT ?_
            refine pV (i:=9) (N:=some 19) m10_16 rfl rfl qT ?_
            refine pV (i:=10) (N:=some 20) m11_16 rfl rfl qT ?_
            refine pV (i:=11) (N:=some 21) m12_16 rfl rfl qT ?_
            refine take_ (i:=12) (N:=some 22) (v:=?_) (a':=?_) m13_16 rfl rfl (take_ofW HT_.out HW_.out (by kernel_rfl)) (fun _ _ _ h => h) (Or.inl ⟨by rfl,?_⟩) hHeld ?_ ?_;rotate_left
            ·rintro w' ⟨s0,s1,s2,s3,s4,s5,s6,s7,s8,s9,s10,s11,s12,s13,s14,s15,s16,s17,s18,s19⟩
             go_simp;with_reducible rfl
            rotate_left
            ·simp only [Act.put,sA,s0,s1,i64_w,i32_w];rfl
            refine one_ (i:=13) (N:=some 23) m14_16 rfl rfl (one_of HT_.out (by kernel_rfl)) (by decide) (fun K hK => ?_);refine goes_ Try.func104 (by kernel_rfl) rfl #[.int .i64 ((rd_T112 l0 x3_1).f1),.int .i64 0,.int .i64 100] (by rfl) rfl rfl qq187 ?_;with_reducible refine (spec_l1In.calls ((rd_T112 l0 x3_1).f1) 0 100 true _ A7.out).mono ?_
            rintro e w' ⟨rfl,⟨nd,rfl⟩⟩
            refine ⟨_,rfl,?_⟩;refine hK.out _ _ ⟨(ct HB.out hw452_0 :),(ct HB.out hw452_1 :),(ct HB.out hw452_2 :),(ct HB.out hw452_3 :),(ct HB.out hw454_0 :),(ct HB.out hw454_1 :),(ct HB.out hw454_2 :),(ct HB.out hw454_3 :),(ct HB.out hw456_0 :),(ct HB.out hw456_1 :),(ct HB.out hw456_2 :),(ct HB.out hw456_3 :),(ct HB.out hw458_0 :),(ct HB.out hw458_1 :),(ct HB.out hw458_2 :),(ct HB.out hw458_3 :),(ct HB.out hw459_0 :),(ct HB.out hw459_1 :),(ct HB.out hw459_2 :),(ct HB.out hw459_3 :)⟩ (fun hHeld => ?_);clear hK K;refine norm_ (a':=?_) ?_ ?_;rotate_left
            ·show Act.put _ (some 23) _ = _
             simp only [Act.put,sA,s0,s1,i64_w,i32_w];rfl
            refine pV (i:=14) (N:=some 24) m15_16 rfl rfl qT ?_
            refine pV (i:=15) (N:=some 25) m16_16 rfl rfl qT ?_
            refine pV (i:=16) (N:=some 26) m17_16 rfl rfl qT ?_
            refine pV (i:=17) (N:=some 27) m18_16 rfl rfl qT ?_
            refine pV (i:=18) (N:=some 28) m19_16 rfl rfl qT ?_
            refine pV (i:=19) (N:=some 29) m20_16 rfl rfl qT ?_
            refine pV (i:=20) (N:=some 30) m21_16 rfl rfl qT ?_
            refine take_ (i:=21) (N:=some 31) (v:=?_) (a':=?_) m22_16 rfl rfl (take_ofW HT_.out HW_.out (by kernel_rfl)) (fun _ _ _ h => h) (Or.inl ⟨by rfl,?_⟩) hHeld ?_ ?_;rotate_left
            ·rintro w' ⟨s0,s1,s2,s3,s4,s5,s6,s7,s8,s9,s10,s11,s12,s13,s14,s15,s16,s17,s18,s19⟩
             go_simp;with_reducible rfl
            rotate_left
            ·simp only [Act.put,sA,s0,s1,i64_w,i32_w];rfl
            refine one_ (i:=22) (N:=some 32) m23_16 rfl rfl (one_of HT_.out (by kernel_rfl)) (by decide) (fun K hK => ?_);refine goes_ Try.func104 (by kernel_rfl) rfl #[.int .i64 ((rd_T112 l0 x3_1).f2),.int .i64 1,.int .i64 10] (by rfl) rfl rfl qq187 ?_;with_reducible refine (spec_l1In.calls ((rd_T112 l0 x3_1).f2) 1 10 true _ A9.out).mono ?_
            rintro e w' ⟨rfl,⟨nd,rfl⟩⟩
            refine ⟨_,rfl,?_⟩;refine hK.out _ _ ⟨(ct HB.out hw452_0 :),(ct HB.out hw452_1 :),(ct HB.out hw452_2 :),(ct HB.out hw452_3 :),(ct HB.out hw454_0 :),(ct HB.out hw454_1 :),(ct HB.out hw454_2 :),(ct HB.out hw454_3 :),(ct HB.out hw456_0 :),(ct HB.out hw456_1 :),(ct HB.out hw456_2 :),(ct HB.out hw456_3 :),(ct HB.out hw458_0 :),(ct HB.out hw458_1 :),(ct HB.out hw458_2 :),(ct HB.out hw458_3 :),(ct HB.out hw459_0 :),(ct HB.out hw459_1 :),(ct HB.out hw459_2 :),(ct HB.out hw459_3 :)⟩ (fun hHeld => ?_);clear hK K;refine norm_ (a':=?_) ?_ ?_;rotate_left
            ·show Act.put _ (some 32) _ = _
             simp only [Act.put,sA,s0,s1,i64_w,i32_w];rfl
            refine pV (i:=23) (N:=some 33) m24_16 rfl rfl qT ?_
            refine pV (i:=24) (N:=some 34) m25_16 rfl rfl qT ?_
            refine pV (i:=25) (N:=some 35) m26_16 rfl rfl qT ?_
            refine pV (i:=26) (N:=some 36) m27_16 rfl rfl qT ?_
            refine pV (i:=27) (N:=some 37) m28_16 rfl rfl qT ?_
            refine pV (i:=28) (N:=some 38) m29_16 rfl rfl qT ?_
            refine pV (i:=29) (N:=some 39) m30_16 rfl rfl qT ?_
            refine pV (i:=30) (N:=some 40) m31_16 rfl rfl qT ?_
            refine pV (i:=31) (N:=some 41) m32_16 rfl rfl qT ?_
            refine pV (i:=32) (N:=some 42) m33_16 rfl rfl qT ?_
            refine pV (i:=33) (N:=some 43) m34_16 rfl rfl qT ?_
            refine pV (i:=35) (N:=some 45) #[Y,Y,Y,Y,Y,Y,Y,Y,Y,Y,Y,Y,Y,Y,Y,Y,Y,Y,Y,Y,Y,Y,Y,Y,Y,Y,Y,Y,Y,Y,Y,Y,Y,Y,Z,Y,Z,Z,Z,Z,Z,Z,Z] rfl rfl qT ?_
            refine pV (i:=36) (N:=some 46) #[Y,Y,Y,Y,Y,Y,Y,Y,Y,Y,Y,Y,Y,Y,Y,Y,Y,Y,Y,Y,Y,Y,Y,Y,Y,Y,Y,Y,Y,Y,Y,Y,Y,Y,Z,Y,Y,Z,Z,Z,Z,Z,Z] rfl rfl qT ?_
            refine pV (i:=37) (N:=some 47) #[Y,Y,Y,Y,Y,Y,Y,Y,Y,Y,Y,Y,Y,Y,Y,Y,Y,Y,Y,Y,Y,Y,Y,Y,Y,Y,Y,Y,Y,Y,Y,Y,Y,Y,Z,Y,Y,Y,Z,Z,Z,Z,Z] rfl rfl qT ?_
            refine pV (i:=38) (N:=some 48) #[Y,Y,Y,Y,Y,Y,Y,Y,Y,Y,Y,Y,Y,Y,Y,Y,Y,Y,Y,Y,Y,Y,Y,Y,Y,Y,Y,Y,Y,Y,Y,Y,Y,Y,Z,Y,Y,Y,Y,Z,Z,Z,Z] rfl rfl qT ?_
            refine take_ (i:=34) (N:=some 44) (v:=?_) (a':=?_) m35_16 rfl rfl (take_ofW HT_.out HW_.out (by kernel_rfl)) (fun _ _ _ h => h) (Or.inl ⟨by rfl,?_⟩) hHeld ?_ ?_;rotate_left
            ·rintro w' ⟨s0,s1,s2,s3,s4,s5,s6,s7,s8,s9,s10,s11,s12,s13,s14,s15,s16,s17,s18,s19⟩
             go_simp;with_reducible rfl
            rotate_left
            ·simp only [Act.put,sA,s0,s1,i64_w,i32_w];rfl
            refine take_ (i:=39) (N:=some 49) (v:=?_) (a':=?_) m36_16 rfl rfl (take_ofW HT_.out HW_.out (by kernel_rfl)) (fun _ _ _ h => h) (Or.inl ⟨by rfl,?_⟩) hHeld ?_ ?_;rotate_left
            ·rintro w' ⟨s0,s1,s2,s3,s4,s5,s6,s7,s8,s9,s10,s11,s12,s13,s14,s15,s16,s17,s18,s19⟩
             go_simp;with_reducible rfl
            rotate_left
            ·simp only [Act.put,sA,s0,s1,i64_w,i32_w];rfl
            refine pV (i:=40) (N:=some 50) m37_16 rfl rfl qT ?_
            refine pV (i:=41) (N:=some 51) m38_16 rfl rfl qT ?_
            refine pV (i:=42) (N:=some 52) m39_16 rfl rfl qT ?_
            refine done_ (done_of HT_.out (by kernel_rfl)) ?_
            try go_wp2
            go_meet
            case rel => exact ⟨_,(decide (((rd_T112 l0 (ji12)).f0) ≥ ((rd_T112 l0 x3_1).f0))),(by first | rfl | (simp;done) | (simp only [← hji12] <;> (first | rfl | simp)) | (simp [*];done)),H',⟨qq308⟩,⟨qq208⟩⟩
           ·rw [if_neg c14] at H;exact absurd H (by simp)
          ·rw [if_neg c13] at H;exact absurd H (by simp)
         ·rw [if_neg c11] at H;have c11b0 : decide (0 < x3_1) = false:=decide_eq_false c11;clear c11;have H':=am H;clear H
          try go_wp2
          replace HB:=am qq519;have p452 : 0 ≤ (x3_1 : Int):=odt qq309;have q452 : x3_1 < (l0.length : Int):=odt qq309;obtain ⟨ad452,e452,hx452_0,hx452_1,hx452_2,hx452_3⟩:=at_T112 HR0.out x3_1 p452 q452;have hw452_3:=hx452_3;have hw452_2:=hx452_2;have hw452_1:=hx452_1;have hw452_0:=hx452_0
          cases e452
          replace hx452_0:=(ct HB.out hx452_0 :)
          replace hx452_1:=(ct HB.out hx452_1 :)
          replace hx452_2:=(ct HB.out hx452_2 :)
          replace hx452_3:=(ct HB.out hx452_3 :)
          replace p452:=eq_true p452;replace q452:=eq_true q452;have p454 : 0 ≤ (x3_1 : Int):=odt qq309;have q454 : x3_1 < (l0.length : Int):=odt qq309;obtain ⟨ad454,e454,hx454_0,hx454_1,hx454_2,hx454_3⟩:=at_T112 HR0.out x3_1 p454 q454;have hw454_3:=hx454_3;have hw454_2:=hx454_2;have hw454_1:=hx454_1;have hw454_0:=hx454_0;obtain rfl : ad452 = ad454:=(by injection e454)
          replace hx454_0:=(ct HB.out hx454_0 :)
          replace hx454_1:=(ct HB.out hx454_1 :)
          replace hx454_2:=(ct HB.out hx454_2 :)
          replace hx454_3:=(ct HB.out hx454_3 :)
          replace p454:=eq_true p454;replace q454:=eq_true q454;have p456 : 0 ≤ (x3_1 : Int):=odt qq309;have q456 : x3_1 < (l0.length : Int):=odt qq309;obtain ⟨ad456,e456,hx456_0,hx456_1,hx456_2,hx456_3⟩:=at_T112 HR0.out x3_1 p456 q456;have hw456_3:=hx456_3;have hw456_2:=hx456_2;have hw456_1:=hx456_1;have hw456_0:=hx456_0;obtain rfl : ad452 = ad456:=(by injection e456)
          replace hx456_0:=(ct HB.out hx456_0 :)
          replace hx456_1:=(ct HB.out hx456_1 :)
          replace hx456_2:=(ct HB.out hx456_2 :)
          replace hx456_3:=(ct HB.out hx456_3 :)
          replace p456:=eq_true p456;replace q456:=eq_true q456;refine start_ (n:=43) (S:=fun w' => w'.cell? (ad452.add ((x3_1).toNat * 4)) = some (.int .i64 ((rd_T112 l0 x3_1).f0)) ∧ w'.cell? ⟨(ad452.add ((x3_1).toNat * 4)).block,(ad452.add ((x3_1).toNat * 4)).off + 1,none⟩ = some (.int .i64 ((rd_T112 l0 x3_1).f1)) ∧ w'.cell? ⟨(ad452.add ((x3_1).toNat * 4)).block,(ad452.add ((x3_1).toNat * 4)).off + 2,none⟩ = some (.int .i64 ((rd_T112 l0 x3_1).f2)) ∧ w'.cell? ⟨(ad452.add ((x3_1).toNat * 4)).block,(ad452.add ((x3_1).toNat * 4)).off + 3,none⟩ = some (.bool ((rd_T112 l0 x3_1).f3)) ∧ w'.cell? (ad452.add ((x3_1).toNat * 4)) = some (.int .i64 ((rd_T112 l0 x3_1).f0)) ∧ w'.cell? ⟨(ad452.add ((x3_1).toNat * 4)).block,(ad452.add ((x3_1).toNat * 4)).off + 1,none⟩ = some (.int .i64 ((rd_T112 l0 x3_1).f1)) ∧ w'.cell? ⟨(ad452.add ((x3_1).toNat * 4)).block,(ad452.add ((x3_1).toNat * 4)).off + 2,none⟩ = some (.int .i64 ((rd_T112 l0 x3_1).f2)) ∧ w'.cell? ⟨(ad452.add ((x3_1).toNat * 4)).block,(ad452.add ((x3_1).toNat * 4)).off + 3,none⟩ = some (.bool ((rd_T112 l0 x3_1).f3)) ∧ w'.cell? (ad452.add ((x3_1).toNat * 4)) = some (.int .i64 ((rd_T112 l0 x3_1).f0)) ∧ w'.cell? ⟨(ad452.add ((x3_1).toNat * 4)).block,(ad452.add ((x3_1).toNat * 4)).off + 1,none⟩ = some (.int .i64 ((rd_T112 l0 x3_1).f1)) ∧ w'.cell? ⟨(ad452.add ((x3_1).toNat * 4)).block,(ad452.add ((x3_1).toNat * 4)).off + 2,none⟩ = some (.int .i64 ((rd_T112 l0 x3_1).f2)) ∧ w'.cell? ⟨(ad452.add ((x3_1).toNat * 4)).block,(ad452.add ((x3_1).toNat * 4)).off + 3,none⟩ = some (.bool ((rd_T112 l0 x3_1).f3))) (ds:=[]) m0_16 (by kernel_rfl) rfl rfl ⟨(ct HB.out hw452_0 :),(ct HB.out hw452_1 :),(ct HB.out hw452_2 :),(ct HB.out hw452_3 :),(ct HB.out hw454_0 :),(ct HB.out hw454_1 :),(ct HB.out hw454_2 :),(ct HB.out hw454_3 :),(ct HB.out hw456_0 :),(ct HB.out hw456_1 :),(ct HB.out hw456_2 :),(ct HB.out hw456_3 :)⟩ (fun hHeld => ?_);refine with_tabW spec_AreCrew.tab4 spec_AreCrew.bits4 (fun HT_ HW_ => ?_)
          generalize wr.drew = w16 at HB hx452_0 hx452_1 hx452_2 hx452_3 hx454_0 hx454_1 hx454_2 hx454_3 hx456_0 hx456_1 hx456_2 hx456_3 hHeld ⊢
          refine pV (i:=0) (N:=some 10) m1_16 rfl rfl qT ?_
          refine pV (i:=1) (N:=some 11) m2_16 rfl rfl qT ?_
          refine pV (i:=2) (N:=some 12) m3_16 rfl rfl qT ?_
          refine pV (i:=3) (N:=some 13) m4_16 rfl rfl qT ?_
          refine take_ (i:=4) (N:=some 14) (v:=?_) (a':=?_) m5_16 rfl rfl (take_ofW HT_.out HW_.out (by kernel_rfl)) (fun _ _ _ h => h) (Or.inl ⟨by rfl,?_⟩) hHeld ?_ ?_;rotate_left
          ·rintro w' ⟨s0,s1,s2,s3,s4,s5,s6,s7,s8,s9,s10,s11⟩
           go_simp;with_reducible rfl
          rotate_left
          ·simp only [Act.put,sA,s0,s1,i64_w,i32_w];rfl
          refine one_ (i:=5) (N:=some 15) m6_16 rfl rfl (one_of HT_.out (by kernel_rfl)) (by decide) (fun K hK => ?_);refine goes_ Try.func104 (by kernel_rfl) rfl #[.int .i64 ((rd_T112 l0 x3_1).f0),.int .i64 1,.int .i64 99] (by rfl) rfl rfl qq187 ?_;with_reducible refine (spec_l1In.calls ((rd_T112 l0 x3_1).f0) 1 99 true _ A5.out).mono ?_
          rintro e w' ⟨rfl,⟨nd,rfl⟩⟩
          refine ⟨_,rfl,?_⟩;refine hK.out _ _ ⟨(ct HB.out hw452_0 :),(ct HB.out hw452_1 :),(ct HB.out hw452_2 :),(ct HB.out hw452_3 :),(ct HB.out hw454_0 :),(ct HB.out hw454_1 :),(ct HB.out hw454_2 :),(ct HB.out hw454_3 :),(ct HB.out hw456_0 :),(ct HB.out hw456_1 :),(ct HB.out hw456_2 :),(ct HB.out hw456_3 :)⟩ (fun hHeld => ?_);clear hK K;refine norm_ (a':=?_) ?_ ?_;rotate_left
          ·show Act.put _ (some 15) _ = _
           simp only [Act.put,sA,s0,s1,i64_w,i32_w];rfl
          refine pV (i:=6) (N:=some 16) m7_16 rfl rfl qT ?_
          refine pV (i:=7) (N:=some 17) m8_16 rfl rfl qT ?_
          refine pV (i:=8) (N:=some 18) m9_16 rfl rfl qT ?_
          refine pV (i:=9) (N:=some 19) m10_16 rfl rfl qT ?_
          refine pV (i:=10) (N:=some 20) m11_16 rfl rfl qT ?_
          refine pV (i:=11) (N:=some 21) m12_16 rfl rfl qT ?_
          refine take_ (i:=12) (N:=some 22) (v:=?_) (a':=?_) m13_16 rfl rfl (take_ofW HT_.out HW_.out (by kernel_rfl)) (fun _ _ _ h => h) (Or.inl ⟨by rfl,?_⟩) hHeld ?_ ?_;rotate_left
          ·rintro w' ⟨s0,s1,s2,s3,s4,s5,s6,s7,s8,s9,s10,s11⟩
           go_simp;with_reducible rfl
          rotate_left
          ·simp only [Act.put,sA,s0,s1,i64_w,i32_w];rfl
          refine one_ (i:=13) (N:=some 23) m14_16 rfl rfl (one_of HT_.out (by kernel_rfl)) (by decide) (fun K hK => ?_);refine goes_ Try.func104 (by kernel_rfl) rfl #[.int .i64 ((rd_T112 l0 x3_1).f1),.int .i64 0,.int .i64 100] (by rfl) rfl rfl qq187 ?_;with_reducible refine (spec_l1In.calls ((rd_T112 l0 x3_1).f1) 0 100 true _ A7.out).mono ?_
          rintro e w' ⟨rfl,⟨nd,rfl⟩⟩
          refine ⟨_,rfl,?_⟩;refine hK.out _ _ ⟨(ct HB.out hw452_0 :),(ct HB.out hw452_1 :),(ct HB.out hw452_2 :),(ct HB.out hw452_3 :),(ct HB.out hw454_0 :),(ct HB.out hw454_1 :),(ct HB.out hw454_2 :),(ct HB.out hw454_3 :),(ct HB.out hw456_0 :),(ct HB.out hw456_1 :),(ct HB.out hw456_2 :),(ct HB.out hw456_3 :)⟩ (fun hHeld => ?_);clear hK K;refine norm_ (a':=?_) ?_ ?_;rotate_left
          ·show Act.put _ (some 23) _ = _
           simp only [Act.put,sA,s0,s1,i64_w,i32_w];rfl
          refine pV (i:=14) (N:=some 24) m15_16 rfl rfl qT ?_
          refine pV (i:=15) (N:=some 25) m16_16 rfl rfl qT ?_
          refine pV (i:=16) (N:=some 26) m17_16 rfl rfl qT ?_
          refine pV (i:=17) (N:=some 27) m18_16 rfl rfl qT ?_
          refine pV (i:=18) (N:=some 28) m19_16 rfl rfl qT ?_
          refine pV (i:=19) (N:=some 29) m20_16 rfl rfl qT ?_
          refine pV (i:=20) (N:=some 30) m21_16 rfl rfl qT ?_
          refine take_ (i:=21) (N:=some 31) (v:=?_) (a':=?_) m22_16 rfl rfl (take_ofW HT_.out HW_.out (by kernel_rfl)) (fun _ _ _ h => h) (Or.inl ⟨by rfl,?_⟩) hHeld ?_ ?_;rotate_left
          ·rintro w' ⟨s0,s1,s2,s3,s4,s5,s6,s7,s8,s9,s10,s11⟩
           go_simp;with_reducible rfl
          rotate_left
          ·simp only [Act.put,sA,s0,s1,i64_w,i32_w];rfl
          refine one_ (i:=22) (N:=some 32) m23_16 rfl rfl (one_of HT_.out (by kernel_rfl)) (by decide) (fun K hK => ?_);refine goes_ Try.func104 (by kernel_rfl) rfl #[.int .i64 ((rd_T112 l0 x3_1).f2),.int .i64 1,.int .i64 10] (by rfl) rfl rfl qq187 ?_;with_reducible refine (spec_l1In.calls ((rd_T112 l0 x3_1).f2) 1 10 true _ A9.out).mono ?_
          rintro e w' ⟨rfl,⟨nd,rfl⟩⟩
          refine ⟨_,rfl,?_⟩;refine hK.out _ _ ⟨(ct HB.out hw452_0 :),(ct HB.out hw452_1 :),(ct HB.out hw452_2 :),(ct HB.out hw452_3 :),(ct HB.out hw454_0 :),(ct HB.out hw454_1 :),(ct HB.out hw454_2 :),(ct HB.out hw454_3 :),(ct HB.out hw456_0 :),(ct HB.out hw456_1 :),(ct HB.out hw456_2 :),(ct HB.out hw456_3 :)⟩ (fun hHeld => ?_);clear hK K;refine norm_ (a':=?_) ?_ ?_;rotate_left
          ·show Act.put _ (some 32) _ = _
           simp only [Act.put,sA,s0,s1,i64_w,i32_w];rfl
          refine pV (i:=23) (N:=some 33) m24_16 rfl rfl qT ?_
          refine pV (i:=24) (N:=some 34) m25_16 rfl rfl qT ?_
          refine pV (i:=25) (N:=some 35) m26_16 rfl rfl qT ?_
          refine pV (i:=26) (N:=some 36) m27_16 rfl rfl qT ?_
          refine pV (i:=27) (N:=some 37) m28_16 rfl rfl qT ?_
          refine pV (i:=28) (N:=some 38) m29_16 rfl rfl qT ?_
          refine pW (i:=29) (N:=some 39) m30_16 rfl rfl qT ?_
          refine pW (i:=30) (N:=some 40) m31_16 rfl rfl qT ?_
          refine pW (i:=31) (N:=some 41) m32_16 rfl rfl qT ?_
          refine pW (i:=32) (N:=some 42) m33_16 rfl rfl qT ?_
          refine pW (i:=33) (N:=some 43) m34_16 rfl rfl qT ?_
          refine pW (i:=34) (N:=some 44) m40_16 rfl rfl qT ?_
          refine pW (i:=35) (N:=some 45) m41_16 rfl rfl qT ?_
          refine pW (i:=36) (N:=some 46) m42_16 rfl rfl qT ?_
          refine pW (i:=37) (N:=some 47) m43_16 rfl rfl qT ?_
          refine pW (i:=38) (N:=some 48) m35_16 rfl rfl qT ?_
          refine pW (i:=39) (N:=some 49) m36_16 rfl rfl qT ?_
          refine pW (i:=40) (N:=some 50) m37_16 rfl rfl qT ?_
          refine pV (i:=41) (N:=some 51) m38_16 rfl rfl qT ?_
          refine pV (i:=42) (N:=some 52) m39_16 rfl rfl qT ?_
          refine done_ (done_of HT_.out (by kernel_rfl)) ?_
          try go_wp2
          go_meet
          case rel => exact ⟨_,(false),qq311,H',⟨qq308⟩,⟨qq208⟩⟩
        ·replace c10:=Bool.eq_false_iff.mpr c10;subst c10;have H1 : (spec_AreCrew.j1 k1 l0 x3_1 true) = some r:=by rw [if_neg (show ¬ (false = true) by decide)] at H;exact H
         clear H;have H:=H1;clear H1;have H':=am H;clear H
         try go_wp2
         replace HB:=am qq519;have p452 : 0 ≤ (x3_1 : Int):=odt qq309;have q452 : x3_1 < (l0.length : Int):=odt qq309;obtain ⟨ad452,e452,hx452_0,hx452_1,hx452_2,hx452_3⟩:=at_T112 HR0.out x3_1 p452 q452;have hw452_3:=hx452_3;have hw452_2:=hx452_2;have hw452_1:=hx452_1;have hw452_0:=hx452_0
         cases e452
         replace hx452_0:=(ct HB.out hx452_0 :)
         replace hx452_1:=(ct HB.out hx452_1 :)
         replace hx452_2:=(ct HB.out hx452_2 :)
         replace hx452_3:=(ct HB.out hx452_3 :)
         replace p452:=eq_true p452;replace q452:=eq_true q452;have p454 : 0 ≤ (x3_1 : Int):=odt qq309;have q454 : x3_1 < (l0.length : Int):=odt qq309;obtain ⟨ad454,e454,hx454_0,hx454_1,hx454_2,hx454_3⟩:=at_T112 HR0.out x3_1 p454 q454;have hw454_3:=hx454_3;have hw454_2:=hx454_2;have hw454_1:=hx454_1;have hw454_0:=hx454_0;obtain rfl : ad452 = ad454:=(by injection e454)
         replace hx454_0:=(ct HB.out hx454_0 :)
         replace hx454_1:=(ct HB.out hx454_1 :)
         replace hx454_2:=(ct HB.out hx454_2 :)
         replace hx454_3:=(ct HB.out hx454_3 :)
         replace p454:=eq_true p454;replace q454:=eq_true q454;have p456 : 0 ≤ (x3_1 : Int):=odt qq309;have q456 : x3_1 < (l0.length : Int):=odt qq309;obtain ⟨ad456,e456,hx456_0,hx456_1,hx456_2,hx456_3⟩:=at_T112 HR0.out x3_1 p456 q456;have hw456_3:=hx456_3;have hw456_2:=hx456_2;have hw456_1:=hx456_1;have hw456_0:=hx456_0;obtain rfl : ad452 = ad456:=(by injection e456)
         replace hx456_0:=(ct HB.out hx456_0 :)
         replace hx456_1:=(ct HB.out hx456_1 :)
         replace hx456_2:=(ct HB.out hx456_2 :)
         replace hx456_3:=(ct HB.out hx456_3 :)
         replace p456:=eq_true p456;replace q456:=eq_true q456;refine start_ (n:=43) (S:=fun w' => w'.cell? (ad452.add ((x3_1).toNat * 4)) = some (.int .i64 ((rd_T112 l0 x3_1).f0)) ∧ w'.cell? ⟨(ad452.add ((x3_1).toNat * 4)).block,(ad452.add ((x3_1).toNat * 4)).off + 1,none⟩ = some (.int .i64 ((rd_T112 l0 x3_1).f1)) ∧ w'.cell? ⟨(ad452.add ((x3_1).toNat * 4)).block,(ad452.add ((x3_1).toNat * 4)).off + 2,none⟩ = some (.int .i64 ((rd_T112 l0 x3_1).f2)) ∧ w'.cell? ⟨(ad452.add ((x3_1).toNat * 4)).block,(ad452.add ((x3_1).toNat * 4)).off + 3,none⟩ = some (.bool ((rd_T112 l0 x3_1).f3)) ∧ w'.cell? (ad452.add ((x3_1).toNat * 4)) = some (.int .i64 ((rd_T112 l0 x3_1).f0)) ∧ w'.cell? ⟨(ad452.add ((x3_1).toNat * 4)).block,(ad452.add ((x3_1).toNat * 4)).off + 1,none⟩ = some (.int .i64 ((rd_T112 l0 x3_1).f1)) ∧ w'.cell? ⟨(ad452.add ((x3_1).toNat * 4)).block,(ad452.add ((x3_1).toNat * 4)).off + 2,none⟩ = some (.int .i64 ((rd_T112 l0 x3_1).f2)) ∧ w'.cell? ⟨(ad452.add ((x3_1).toNat * 4)).block,(ad452.add ((x3_1).toNat * 4)).off + 3,none⟩ = some (.bool ((rd_T112 l0 x3_1).f3)) ∧ w'.cell? (ad452.add ((x3_1).toNat * 4)) = some (.int .i64 ((rd_T112 l0 x3_1).f0)) ∧ w'.cell? ⟨(ad452.add ((x3_1).toNat * 4)).block,(ad452.add ((x3_1).toNat * 4)).off + 1,none⟩ = some (.int .i64 ((rd_T112 l0 x3_1).f1)) ∧ w'.cell? ⟨(ad452.add ((x3_1).toNat * 4)).block,(ad452.add ((x3_1).toNat * 4)).off + 2,none⟩ = some (.int .i64 ((rd_T112 l0 x3_1).f2)) ∧ w'.cell? ⟨(ad452.add ((x3_1).toNat * 4)).block,(ad452.add ((x3_1).toNat * 4)).off + 3,none⟩ = some (.bool ((rd_T112 l0 x3_1).f3))) (ds:=[]) m0_16 (by kernel_rfl) rfl rfl ⟨(ct HB.out hw452_0 :),(ct HB.out hw452_1 :),(ct HB.out hw452_2 :),(ct HB.out hw452_3 :),(ct HB.out hw454_0 :),(ct HB.out hw454_1 :),(ct HB.out hw454_2 :),(ct HB.out hw454_3 :),(ct HB.out hw456_0 :),(ct HB.out hw456_1 :),(ct HB.out hw456_2 :),(ct HB.out hw456_3 :)⟩ (fun hHeld => ?_);refine with_tabW spec_AreCrew.tab4 spec_AreCrew.bits4 (fun HT_ HW_ => ?_)
         generalize wr.drew = w17 at HB hx452_0 hx452_1 hx452_2 hx452_3 hx454_0 hx454_1 hx454_2 hx454_3 hx456_0 hx456_1 hx456_2 hx456_3 hHeld ⊢
         refine pV (i:=0) (N:=some 10) m1_16 rfl rfl qT ?_
         refine pV (i:=1) (N:=some 11) m2_16 rfl rfl qT ?_
         refine pV (i:=2) (N:=some 12) m3_16 rfl rfl qT ?_
         refine pV (i:=3) (N:=some 13) m4_16 rfl rfl qT ?_
         refine take_ (i:=4) (N:=some 14) (v:=?_) (a':=?_) m5_16 rfl rfl (take_ofW HT_.out HW_.out (by kernel_rfl)) (fun _ _ _ h => h) (Or.inl ⟨by rfl,?_⟩) hHeld ?_ ?_;rotate_left
         ·rintro w' ⟨s0,s1,s2,s3,s4,s5,s6,s7,s8,s9,s10,s11⟩
          go_simp;with_reducible rfl
         rotate_left
         ·simp only [Act.put,sA,s0,s1,i64_w,i32_w];rfl
         refine one_ (i:=5) (N:=some 15) m6_16 rfl rfl (one_of HT_.out (by kernel_rfl)) (by decide) (fun K hK => ?_);refine goes_ Try.func104 (by kernel_rfl) rfl #[.int .i64 ((rd_T112 l0 x3_1).f0),.int .i64 1,.int .i64 99] (by rfl) rfl rfl qq187 ?_;with_reducible refine (spec_l1In.calls ((rd_T112 l0 x3_1).f0) 1 99 true _ A5.out).mono ?_
         rintro e w' ⟨rfl,⟨nd,rfl⟩⟩
         refine ⟨_,rfl,?_⟩;refine hK.out _ _ ⟨(ct HB.out hw452_0 :),(ct HB.out hw452_1 :),(ct HB.out hw452_2 :),(ct HB.out hw452_3 :),(ct HB.out hw454_0 :),(ct HB.out hw454_1 :),(ct HB.out hw454_2 :),(ct HB.out hw454_3 :),(ct HB.out hw456_0 :),(ct HB.out hw456_1 :),(ct HB.out hw456_2 :),(ct HB.out hw456_3 :)⟩ (fun hHeld => ?_);clear hK K;refine norm_ (a':=?_) ?_ ?_;rotate_left
         ·show Act.put _ (some 15) _ = _
          simp only [Act.put,sA,s0,s1,i64_w,i32_w];rfl
         refine pV (i:=6) (N:=some 16) m7_16 rfl rfl qT ?_
         refine pV (i:=7) (N:=some 17) m8_16 rfl rfl qT ?_
         refine pV (i:=8) (N:=some 18) m9_16 rfl rfl qT ?_
         refine pV (i:=9) (N:=some 19) m10_16 rfl rfl qT ?_
         refine pV (i:=10) (N:=some 20) m11_16 rfl rfl qT ?_
         refine pV (i:=11) (N:=some 21) m12_16 rfl rfl qT ?_
         refine take_ (i:=12) (N:=some 22) (v:=?_) (a':=?_) m13_16 rfl rfl (take_ofW HT_.out HW_.out (by kernel_rfl)) (fun _ _ _ h => h) (Or.inl ⟨by rfl,?_⟩) hHeld ?_ ?_;rotate_left
         ·rintro w' ⟨s0,s1,s2,s3,s4,s5,s6,s7,s8,s9,s10,s11⟩
          go_simp;with_reducible rfl
         rotate_left
         ·simp only [Act.put,sA,s0,s1,i64_w,i32_w];rfl
         refine one_ (i:=13) (N:=some 23) m14_16 rfl rfl (one_of HT_.out (by kernel_rfl)) (by decide) (fun K hK => ?_);refine goes_ Try.func104 (by kernel_rfl) rfl #[.int .i64 ((rd_T112 l0 x3_1).f1),.int .i64 0,.int .i64 100] (by rfl) rfl rfl qq187 ?_;with_reducible refine (spec_l1In.calls ((rd_T112 l0 x3_1).f1) 0 100 true _ A7.out).mono ?_
         rintro e w' ⟨rfl,⟨nd,rfl⟩⟩
         refine ⟨_,rfl,?_⟩;refine hK.out _ _ ⟨(ct HB.out hw452_0 :),(ct HB.out hw452_1 :),(ct HB.out hw452_2 :),(ct HB.out hw452_3 :),(ct HB.out hw454_0 :),(ct HB.out hw454_1 :),(ct HB.out hw454_2 :),(ct HB.out hw454_3 :),(ct HB.out hw456_0 :),(ct HB.out hw456_1 :),(ct HB.out hw456_2 :),(ct HB.out hw456_3 :)⟩ (fun hHeld => ?_);clear hK K;refine norm_ (a':=?_) ?_ ?_;rotate_left
         ·show Act.put _ (some 23) _ = _
          simp only [Act.put,sA,s0,s1,i64_w,i32_w];rfl
         refine pV (i:=14) (N:=some 24) m15_16 rfl rfl qT ?_
         refine pV (i:=15) (N:=some 25) m16_16 rfl rfl qT ?_
         refine pV (i:=16) (N:=some 26) m17_16 rfl rfl qT ?_
         refine pV (i:=17) (N:=some 27) m18_16 rfl rfl qT ?_
         refine pV (i:=18) (N:=some 28) m19_16 rfl rfl qT ?_
         refine pV (i:=19) (N:=some 29) m20_16 rfl rfl qT ?_
         refine pV (i:=20) (N:=some 30) m21_16 rfl rfl qT ?_
         refine take_ (i:=21) (N:=some 31) (v:=?_) (a':=?_) m22_16 rfl rfl (take_ofW HT_.out HW_.out (by kernel_rfl)) (fun _ _ _ h => h) (Or.inl ⟨by rfl,?_⟩) hHeld ?_ ?_;rotate_left
         ·rintro w' ⟨s0,s1,s2,s3,s4,s5,s6,s7,s8,s9,s10,s11⟩
          go_simp;with_reducible rfl
         rotate_left
         ·simp only [Act.put,sA,s0,s1,i64_w,i32_w];rfl
         refine one_ (i:=22) (N:=some 32) m23_16 rfl rfl (one_of HT_.out (by kernel_rfl)) (by decide) (fun K hK => ?_);refine goes_ Try.func104 (by kernel_rfl) rfl #[.int .i64 ((rd_T112 l0 x3_1).f2),.int .i64 1,.int .i64 10] (by rfl) rfl rfl qq187 ?_;with_reducible refine (spec_l1In.calls ((rd_T112 l0 x3_1).f2) 1 10 false _ A9.out).mono ?_
         rintro e w' ⟨rfl,⟨nd,rfl⟩⟩
         refine ⟨_,rfl,?_⟩;refine hK.out _ _ ⟨(ct HB.out hw452_0 :),(ct HB.out hw452_1 :),(ct HB.out hw452_2 :),(ct HB.out hw452_3 :),(ct HB.out hw454_0 :),(ct HB.out hw454_1 :),(ct HB.out hw454_2 :),(ct HB.out hw454_3 :),(ct HB.out hw456_0 :),(ct HB.out hw456_1 :),(ct HB.out hw456_2 :),(ct HB.out hw456_3 :)⟩ (fun hHeld => ?_);clear hK K;refine norm_ (a':=?_) ?_ ?_;rotate_left
         ·show Act.put _ (some 32) _ = _
          simp only [Act.put,sA,s0,s1,i64_w,i32_w];rfl
         refine pV (i:=23) (N:=some 33) m24_16 rfl rfl qT ?_
         refine pV (i:=24) (N:=some 34) m25_16 rfl rfl qT ?_
         refine pV (i:=25) (N:=some 35) m26_16 rfl rfl qT ?_
         refine pW (i:=26) (N:=some 36) m27_16 rfl rfl qT ?_
         refine pW (i:=27) (N:=some 37) m28_16 rfl rfl qT ?_
         refine pW (i:=28) (N:=some 38) m29_16 rfl rfl qT ?_
         refine pW (i:=29) (N:=some 39) m30_16 rfl rfl qT ?_
         refine pW (i:=30) (N:=some 40) m31_16 rfl rfl qT ?_
         refine pW (i:=31) (N:=some 41) m32_16 rfl rfl qT ?_
         refine pW (i:=32) (N:=some 42) m33_16 rfl rfl qT ?_
         refine pW (i:=33) (N:=some 43) m34_16 rfl rfl qT ?_
         refine pW (i:=34) (N:=some 44) m40_16 rfl rfl qT ?_
         refine pW (i:=35) (N:=some 45) m41_16 rfl rfl qT ?_
         refine pW (i:=36) (N:=some 46) m42_16 rfl rfl qT ?_
         refine pW (i:=37) (N:=some 47) m43_16 rfl rfl qT ?_
         refine pW (i:=38) (N:=some 48) m35_16 rfl rfl qT ?_
         refine pW (i:=39) (N:=some 49) m36_16 rfl rfl qT ?_
         refine pW (i:=40) (N:=some 50) m37_16 rfl rfl qT ?_
         refine pW (i:=41) (N:=some 51) m38_16 rfl rfl qT ?_
         refine pV (i:=42) (N:=some 52) m39_16 rfl rfl qT ?_
         refine done_ (done_of HT_.out (by kernel_rfl)) ?_
         try go_wp2
         go_meet
         case rel => exact ⟨_,(true),qq311,H',⟨qq308⟩,⟨qq208⟩⟩
       ·replace c8:=Bool.eq_false_iff.mpr c8;subst c8;have H1 : (spec_AreCrew.j1 k1 l0 x3_1 true) = some r:=by rw [if_neg (show ¬ (false = true) by decide)] at H;exact H
        clear H;have H:=H1;clear H1;have H':=am H;clear H
        try go_wp2
        replace HB:=am qq519;have p452 : 0 ≤ (x3_1 : Int):=odt qq309;have q452 : x3_1 < (l0.length : Int):=odt qq309;obtain ⟨ad452,e452,hx452_0,hx452_1,hx452_2,hx452_3⟩:=at_T112 HR0.out x3_1 p452 q452;have hw452_3:=hx452_3;have hw452_2:=hx452_2;have hw452_1:=hx452_1;have hw452_0:=hx452_0
        cases e452
        replace hx452_0:=(ct HB.out hx452_0 :)
        replace hx452_1:=(ct HB.out hx452_1 :)
        replace hx452_2:=(ct HB.out hx452_2 :)
        replace hx452_3:=(ct HB.out hx452_3 :)
        replace p452:=eq_true p452;replace q452:=eq_true q452;have p454 : 0 ≤ (x3_1 : Int):=odt qq309;have q454 : x3_1 < (l0.length : Int):=odt qq309;obtain ⟨ad454,e454,hx454_0,hx454_1,hx454_2,hx454_3⟩:=at_T112 HR0.out x3_1 p454 q454;have hw454_3:=hx454_3;have hw454_2:=hx454_2;have hw454_1:=hx454_1;have hw454_0:=hx454_0;obtain rfl : ad452 = ad454:=(by injection e454)
        replace hx454_0:=(ct HB.out hx454_0 :)
        replace hx454_1:=(ct HB.out hx454_1 :)
        replace hx454_2:=(ct HB.out hx454_2 :)
        replace hx454_3:=(ct HB.out hx454_3 :)
        replace p454:=eq_true p454;replace q454:=eq_true q454;refine start_ (n:=43) (S:=fun w' => w'.cell? (ad452.add ((x3_1).toNat * 4)) = some (.int .i64 ((rd_T112 l0 x3_1).f0)) ∧ w'.cell? ⟨(ad452.add ((x3_1).toNat * 4)).block,(ad452.add ((x3_1).toNat * 4)).off + 1,none⟩ = some (.int .i64 ((rd_T112 l0 x3_1).f1)) ∧ w'.cell? ⟨(ad452.add ((x3_1).toNat * 4)).block,(ad452.add ((x3_1).toNat * 4)).off + 2,none⟩ = some (.int .i64 ((rd_T112 l0 x3_1).f2)) ∧ w'.cell? ⟨(ad452.add ((x3_1).toNat * 4)).block,(ad452.add ((x3_1).toNat * 4)).off + 3,none⟩ = some (.bool ((rd_T112 l0 x3_1).f3)) ∧ w'.cell? (ad452.add ((x3_1).toNat * 4)) = some (.int .i64 ((rd_T112 l0 x3_1).f0)) ∧ w'.cell? ⟨(ad452.add ((x3_1).toNat * 4)).block,(ad452.add ((x3_1).toNat * 4)).off + 1,none⟩ = some (.int .i64 ((rd_T112 l0 x3_1).f1)) ∧ w'.cell? ⟨(ad452.add ((x3_1).toNat * 4)).block,(ad452.add ((x3_1).toNat * 4)).off + 2,none⟩ = some (.int .i64 ((rd_T112 l0 x3_1).f2)) ∧ w'.cell? ⟨(ad452.add ((x3_1).toNat * 4)).block,(ad452.add ((x3_1).toNat * 4)).off + 3,none⟩ = some (.bool ((rd_T112 l0 x3_1).f3))) (ds:=[]) m0_16 (by kernel_rfl) rfl rfl ⟨(ct HB.out hw452_0 :),(ct HB.out hw452_1 :),(ct HB.out hw452_2 :),(ct HB.out hw452_3 :),(ct HB.out hw454_0 :),(ct HB.out hw454_1 :),(ct HB.out hw454_2 :),(ct HB.out hw454_3 :)⟩ (fun hHeld => ?_);refine with_tabW spec_AreCrew.tab4 spec_AreCrew.bits4 (fun HT_ HW_ => ?_)
        generalize wr.drew = w18 at HB hx452_0 hx452_1 hx452_2 hx452_3 hx454_0 hx454_1 hx454_2 hx454_3 hHeld ⊢
        refine pV (i:=0) (N:=some 10) m1_16 rfl rfl qT ?_
        refine pV (i:=1) (N:=some 11) m2_16 rfl rfl qT ?_
        refine pV (i:=2) (N:=some 12) m3_16 rfl rfl qT ?_
        refine pV (i:=3) (N:=some 13) m4_16 rfl rfl qT ?_
        refine tV8 (i:=4) (N:=some 14) m5_16 rfl rfl (take_ofW HT_.out HW_.out (by kernel_rfl)) hHeld ?_
        refine one_ (i:=5) (N:=some 15) m6_16 rfl rfl (one_of HT_.out (by kernel_rfl)) (by decide) (fun K hK => ?_);refine goes_ Try.func104 (by kernel_rfl) rfl #[.int .i64 ((rd_T112 l0 x3_1).f0),.int .i64 1,.int .i64 99] (by rfl) rfl rfl qq187 ?_;with_reducible refine (spec_l1In.calls ((rd_T112 l0 x3_1).f0) 1 99 true _ A5.out).mono ?_
        rintro e w' ⟨rfl,⟨nd,rfl⟩⟩
        refine ⟨_,rfl,?_⟩;refine hK.out _ _ ⟨(ct HB.out hw452_0 :),(ct HB.out hw452_1 :),(ct HB.out hw452_2 :),(ct HB.out hw452_3 :),(ct HB.out hw454_0 :),(ct HB.out hw454_1 :),(ct HB.out hw454_2 :),(ct HB.out hw454_3 :)⟩ (fun hHeld => ?_);clear hK K;refine norm_ (a':=?_) ?_ ?_;rotate_left
        ·show Act.put _ (some 15) _ = _
         simp only [Act.put,sA,s0,s1,i64_w,i32_w];rfl
        refine pV (i:=6) (N:=some 16) m7_16 rfl rfl qT ?_
        refine pV (i:=7) (N:=some 17) m8_16 rfl rfl qT ?_
        refine pV (i:=8) (N:=some 18) m9_16 rfl rfl qT ?_
        refine pV (i:=9) (N:=some 19) m10_16 rfl rfl qT ?_
        refine pV (i:=10) (N:=some 20) m11_16 rfl rfl qT ?_
        refine pV (i:=11) (N:=some 21) m12_16 rfl rfl qT ?_
        refine tV8 (i:=12) (N:=some 22) m13_16 rfl rfl (take_ofW HT_.out HW_.out (by kernel_rfl)) hHeld ?_
        refine one_ (i:=13) (N:=some 23) m14_16 rfl rfl (one_of HT_.out (by kernel_rfl)) (by decide) (fun K hK => ?_);refine goes_ Try.func104 (by kernel_rfl) rfl #[.int .i64 ((rd_T112 l0 x3_1).f1),.int .i64 0,.int .i64 100] (by rfl) rfl rfl qq187 ?_;with_reducible refine (spec_l1In.calls ((rd_T112 l0 x3_1).f1) 0 100 false _ A7.out).mono ?_
        rintro e w' ⟨rfl,⟨nd,rfl⟩⟩
        refine ⟨_,rfl,?_⟩;refine hK.out _ _ ⟨(ct HB.out hw452_0 :),(ct HB.out hw452_1 :),(ct HB.out hw452_2 :),(ct HB.out hw452_3 :),(ct HB.out hw454_0 :),(ct HB.out hw454_1 :),(ct HB.out hw454_2 :),(ct HB.out hw454_3 :)⟩ (fun hHeld => ?_);clear hK K;refine norm_ (a':=?_) ?_ ?_;rotate_left
        ·show Act.put _ (some 23) _ = _
         simp only [Act.put,sA,s0,s1,i64_w,i32_w];rfl
        refine pV (i:=14) (N:=some 24) m15_16 rfl rfl qT ?_
        refine pV (i:=15) (N:=some 25) m16_16 rfl rfl qT ?_
        refine pV (i:=16) (N:=some 26) m17_16 rfl rfl qT ?_
        refine pW (i:=17) (N:=some 27) m18_16 rfl rfl qT ?_
        refine pW (i:=18) (N:=some 28) m19_16 rfl rfl qT ?_
        refine pW (i:=19) (N:=some 29) m20_16 rfl rfl qT ?_
        refine pW (i:=20) (N:=some 30) m21_16 rfl rfl qT ?_
        refine pW (i:=21) (N:=some 31) m22_16 rfl rfl qT ?_
        refine pW (i:=22) (N:=some 32) m23_16 rfl rfl qT ?_
        refine pW (i:=23) (N:=some 33) m24_16 rfl rfl qT ?_
        refine pV (i:=24) (N:=some 34) m25_16 rfl rfl qT ?_
        refine pV (i:=25) (N:=some 35) m26_16 rfl rfl qT ?_
        refine pW (i:=26) (N:=some 36) m27_16 rfl rfl qT ?_
        refine pW (i:=27) (N:=some 37) m28_16 rfl rfl qT ?_
        refine pW (i:=28) (N:=some 38) m29_16 rfl rfl qT ?_
        refine pW (i:=29) (N:=some 39) m30_16 rfl rfl qT ?_
        refine pW (i:=30) (N:=some 40) m31_16 rfl rfl qT ?_
        refine pW (i:=31) (N:=some 41) m32_16 rfl rfl qT ?_
        refine pW (i:=32) (N:=some 42) m33_16 rfl rfl qT ?_
        refine pW (i:=33) (N:=some 43) m34_16 rfl rfl qT ?_
        refine pW (i:=34) (N:=some 44) m40_16 rfl rfl qT ?_
        refine pW (i:=35) (N:=some 45) m41_16 rfl rfl qT ?_
        refine pW (i:=36) (N:=some 46) m42_16 rfl rfl qT ?_
        refine pW (i:=37) (N:=some 47) m43_16 rfl rfl qT ?_
        refine pW (i:=38) (N:=some 48) m35_16 rfl rfl qT ?_
        refine pW (i:=39) (N:=some 49) m36_16 rfl rfl qT ?_
        refine pW (i:=40) (N:=some 50) m37_16 rfl rfl qT ?_
        refine pW (i:=41) (N:=some 51) m38_16 rfl rfl qT ?_
        refine pV (i:=42) (N:=some 52) m39_16 rfl rfl qT ?_
        refine done_ (done_of HT_.out (by kernel_rfl)) ?_
        try go_wp2
        go_meet
        case rel => exact ⟨_,(true),qq311,H',⟨qq308⟩,⟨qq208⟩⟩
      ·replace c6:=Bool.eq_false_iff.mpr c6;subst c6;have H1 : (spec_AreCrew.j1 k1 l0 x3_1 true) = some r:=by rw [if_neg (show ¬ (false = true) by decide)] at H;exact H
       clear H;have H:=H1;clear H1;have H':=am H;clear H
       try go_wp2
       replace HB:=am qq519;have p452 : 0 ≤ (x3_1 : Int):=odt qq309;have q452 : x3_1 < (l0.length : Int):=odt qq309;obtain ⟨ad452,e452,hx452_0,hx452_1,hx452_2,hx452_3⟩:=at_T112 HR0.out x3_1 p452 q452;have hw452_3:=hx452_3;have hw452_2:=hx452_2;have hw452_1:=hx452_1;have hw452_0:=hx452_0
       cases e452
       replace hx452_0:=(ct HB.out hx452_0 :)
       replace hx452_1:=(ct HB.out hx452_1 :)
       replace hx452_2:=(ct HB.out hx452_2 :)
       replace hx452_3:=(ct HB.out hx452_3 :)
       replace p452:=eq_true p452;replace q452:=eq_true q452;refine start_ (n:=43) (S:=fun w' => w'.cell? (ad452.add ((x3_1).toNat * 4)) = some (.int .i64 ((rd_T112 l0 x3_1).f0)) ∧ w'.cell? ⟨(ad452.add ((x3_1).toNat * 4)).block,(ad452.add ((x3_1).toNat * 4)).off + 1,none⟩ = some (.int .i64 ((rd_T112 l0 x3_1).f1)) ∧ w'.cell? ⟨(ad452.add ((x3_1).toNat * 4)).block,(ad452.add ((x3_1).toNat * 4)).off + 2,none⟩ = some (.int .i64 ((rd_T112 l0 x3_1).f2)) ∧ w'.cell? ⟨(ad452.add ((x3_1).toNat * 4)).block,(ad452.add ((x3_1).toNat * 4)).off + 3,none⟩ = some (.bool ((rd_T112 l0 x3_1).f3))) (ds:=[]) m0_16 (by kernel_rfl) rfl rfl ⟨(ct HB.out hw452_0 :),(ct HB.out hw452_1 :),(ct HB.out hw452_2 :),(ct HB.out hw452_3 :)⟩ (fun hHeld => ?_);refine with_tabW spec_AreCrew.tab4 spec_AreCrew.bits4 (fun HT_ HW_ => ?_)
       generalize wr.drew = w19 at HB hx452_0 hx452_1 hx452_2 hx452_3 hHeld ⊢
       refine pV (i:=0) (N:=some 10) m1_16 rfl rfl qT ?_
       refine pV (i:=1) (N:=some 11) m2_16 rfl rfl qT ?_
       refine pV (i:=2) (N:=some 12) m3_16 rfl rfl qT ?_
       refine pV (i:=3) (N:=some 13) m4_16 rfl rfl qT ?_
       refine tV4 (i:=4) (N:=some 14) m5_16 rfl rfl (take_ofW HT_.out HW_.out (by kernel_rfl)) hHeld ?_
       refine one_ (i:=5) (N:=some 15) m6_16 rfl rfl (one_of HT_.out (by kernel_rfl)) (by decide) (fun K hK => ?_);refine goes_ Try.func104 (by kernel_rfl) rfl #[.int .i64 ((rd_T112 l0 x3_1).f0),.int .i64 1,.int .i64 99] (by rfl) rfl rfl qq187 ?_;with_reducible refine (spec_l1In.calls ((rd_T112 l0 x3_1).f0) 1 99 false _ A5.out).mono ?_
       rintro e w' ⟨rfl,⟨nd,rfl⟩⟩
       refine ⟨_,rfl,?_⟩;refine hK.out _ _ ⟨(ct HB.out hw452_0 :),(ct HB.out hw452_1 :),(ct HB.out hw452_2 :),(ct HB.out hw452_3 :)⟩ (fun hHeld => ?_);clear hK K;refine norm_ (a':=?_) ?_ ?_;rotate_left
       ·show Act.put _ (some 15) _ = _
        simp only [Act.put,sA,s0,s1,i64_w,i32_w];rfl
       refine pV (i:=6) (N:=some 16) m7_16 rfl rfl qT ?_
       refine pV (i:=7) (N:=some 17) m8_16 rfl rfl qT ?_
       refine pW (i:=8) (N:=some 18) m9_16 rfl rfl qT ?_
       refine pW (i:=9) (N:=some 19) m10_16 rfl rfl qT ?_
       refine pW (i:=10) (N:=some 20) m11_16 rfl rfl qT ?_
       refine pW (i:=11) (N:=some 21) m12_16 rfl rfl qT ?_
       refine pW (i:=12) (N:=some 22) m13_16 rfl rfl qT ?_
       refine pW (i:=13) (N:=some 23) m14_16 rfl rfl qT ?_
       refine pW (i:=14) (N:=some 24) m15_16 rfl rfl qT ?_
       refine pV (i:=15) (N:=some 25) m16_16 rfl rfl qT ?_
       refine pV (i:=16) (N:=some 26) m17_16 rfl rfl qT ?_
       refine pW (i:=17) (N:=some 27) m18_16 rfl rfl qT ?_
       refine pW (i:=18) (N:=some 28) m19_16 rfl rfl qT ?_
       refine pW (i:=19) (N:=some 29) m20_16 rfl rfl qT ?_
       refine pW (i:=20) (N:=some 30) m21_16 rfl rfl qT ?_
       refine pW (i:=21) (N:=some 31) m22_16 rfl rfl qT ?_
       refine pW (i:=22) (N:=some 32) m23_16 rfl rfl qT ?_
       refine pW (i:=23) (N:=some 33) m24_16 rfl rfl qT ?_
       refine pV (i:=24) (N:=some 34) m25_16 rfl rfl qT ?_
       refine pV (i:=25) (N:=some 35) m26_16 rfl rfl qT ?_
       refine pW (i:=26) (N:=some 36) m27_16 rfl rfl qT ?_
       refine pW (i:=27) (N:=some 37) m28_16 rfl rfl qT ?_
       refine pW (i:=28) (N:=some 38) m29_16 rfl rfl qT ?_
       refine pW (i:=29) (N:=some 39) m30_16 rfl rfl qT ?_
       refine pW (i:=30) (N:=some 40) m31_16 rfl rfl qT ?_
       refine pW (i:=31) (N:=some 41) m32_16 rfl rfl qT ?_
       refine pW (i:=32) (N:=some 42) m33_16 rfl rfl qT ?_
       refine pW (i:=33) (N:=some 43) m34_16 rfl rfl qT ?_
       refine pW (i:=34) (N:=some 44) m40_16 rfl rfl qT ?_
       refine pW (i:=35) (N:=some 45) m41_16 rfl rfl qT ?_
       refine pW (i:=36) (N:=some 46) m42_16 rfl rfl qT ?_
       refine pW (i:=37) (N:=some 47) m43_16 rfl rfl qT ?_
       refine pW (i:=38) (N:=some 48) m35_16 rfl rfl qT ?_
       refine pW (i:=39) (N:=some 49) m36_16 rfl rfl qT ?_
       refine pW (i:=40) (N:=some 50) m37_16 rfl rfl qT ?_
       refine pW (i:=41) (N:=some 51) m38_16 rfl rfl qT ?_
       refine pV (i:=42) (N:=some 52) m39_16 rfl rfl qT ?_
       refine done_ (done_of HT_.out (by kernel_rfl)) ?_
       try go_wp2
       go_meet
       case rel => exact ⟨_,(true),qq311,H',⟨qq308⟩,⟨qq208⟩⟩
     ·rw [if_neg c4] at H;exact absurd H (by simp)
    case rest =>
     clear HC3
     try clear c1
     try clear p2
     try clear c4
     try clear p4
     try clear q4
     try clear hx4
     try clear c6
     try clear c8
     try clear c10
     try clear hx452_0
     try clear hx452_1
     try clear hx452_2
     try clear hx452_3
     try clear hx454_0
     try clear hx454_1
     try clear hx454_2
     try clear hx454_3
     try clear p452
     try clear p454
     try clear q452
     try clear q454
     obtain ⟨kq,x52_2,rfl,HA,HJ2,HB⟩:=hcut
     cases kq with
     | zero => exact absurd HA.out (by simp [spec_AreCrew.j1])
     | succ kj2 =>
      have H:=HA.out;clear HA;simp only [spec_AreCrew.j1] at H
      by_cases c20 : x52_2 = true
      ·subst c20;rw [if_pos rfl] at H;obtain rfl:=Option.some.inj H;go_wp2
       go_ret
       exact ⟨qq263,qq208⟩
      ·replace c20:=Bool.eq_false_iff.mpr c20;subst c20;have H1 : (spec_AreCrew.l0 kj2 l0 (wrap64 (x3_1 + 1))) = some r:=by rw [if_neg (show ¬ (false = true) by decide)] at H;exact H
       clear H;have H:=H1;clear H1;have H':=am H;clear H;go_wp2
       go_roundg kj2
       case measure => have:=HK1.out;have:=HJ2.out;omega
       case rel => exact ⟨(wrap64 (x3_1 + 1)),qq311,H',⟨by have:=HK1.out;have:=HJ2.out;omega⟩,⟨qq208⟩⟩
   ·rw [if_neg c2] at H;have c2b0 : decide (x3_1 < (l0.length : Int)) = false:=decide_eq_false c2;clear c2;replace H:=bS.mp H;obtain ⟨t460,A210,H⟩:=H;(try dsimp only at H);have A21:=am A210;clear A210;obtain rfl:=Option.some.inj H;go_wp2_with (first | ((with_reducible refine gate_callee (f:=104) rfl ?_);refine goesL_ (some 55) rfl rfl Try.func104 (by kernel_rfl) rfl #[.int .i64 (l0.length : Int),.int .i64 1,.int .i64 8] rfl qq187 ?_;(with_reducible refine (spec_l1In.calls (l0.length : Int) 1 8 t460 _ A21.out).mono ?_);rintro e w' ⟨rfl,⟨nd,rfl⟩⟩;refine ⟨_,rfl,?_⟩))
    go_ret
    exact ⟨qq263,qq208⟩

end Go.Proofs.Ytcbkknpmeknppaa.PFnExactPlanFood
