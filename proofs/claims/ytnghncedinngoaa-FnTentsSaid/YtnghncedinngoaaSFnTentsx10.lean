/- Contracts of functions that the law FnTents reaches, for its row: lines that the kit's printer wrote for this claim, set shorter by a program of this session (own.py), and what fell in Lean proved anew. Lean checks them. -/
import Derived.Test.YtnghncedinngoaaSFnTentsx0
import Derived.Test.YtnghncedinngoaaSFnTentsx8
namespace Go.Proofs.Ytnghncedinngoaa.PFnTents
open Go.RowKit Go.Proofs.YtnghncedinngoaaW.PrintWords Go.Proofs.YtnghncedinngoaaW.PrintLast Go.Proofs.YtnghncedinngoaaW.PrintMore
attribute [local go_sem] max2_int min2_int max_two min_two max_three min_three max_four min_four   -- for this text's walks alone
set_option linter.unusedVariables false
set_option linter.unusedSimpArgs false

abbrev m0_10 : Array Bool := #[Z,Z,Z,Z,Z,Z,Z,Z,Z,Z,Z,Z,Z,Z,Z,Z,Z,Z,Z,Z,Z,Z,Z,Z,Z,Z,Z,Z,Z,Z,Z,Z,Z,Z,Z,Z,Z,Z,Z,Z,Z,Z,Z]
abbrev m1_10 : Array Bool := #[Y,Z,Z,Z,Z,Z,Z,Z,Z,Z,Z,Z,Z,Z,Z,Z,Z,Z,Z,Z,Z,Z,Z,Z,Z,Z,Z,Z,Z,Z,Z,Z,Z,Z,Z,Z,Z,Z,Z,Z,Z,Z,Z]
abbrev m2_10 : Array Bool := #[Y,Y,Z,Z,Z,Z,Z,Z,Z,Z,Z,Z,Z,Z,Z,Z,Z,Z,Z,Z,Z,Z,Z,Z,Z,Z,Z,Z,Z,Z,Z,Z,Z,Z,Z,Z,Z,Z,Z,Z,Z,Z,Z]
abbrev m3_10 : Array Bool := #[Y,Y,Y,Z,Z,Z,Z,Z,Z,Z,Z,Z,Z,Z,Z,Z,Z,Z,Z,Z,Z,Z,Z,Z,Z,Z,Z,Z,Z,Z,Z,Z,Z,Z,Z,Z,Z,Z,Z,Z,Z,Z,Z]
abbrev m4_10 : Array Bool := #[Y,Y,Y,Y,Z,Z,Z,Z,Z,Z,Z,Z,Z,Z,Z,Z,Z,Z,Z,Z,Z,Z,Z,Z,Z,Z,Z,Z,Z,Z,Z,Z,Z,Z,Z,Z,Z,Z,Z,Z,Z,Z,Z]
abbrev m5_10 : Array Bool := #[Y,Y,Y,Y,Y,Z,Z,Z,Z,Z,Z,Z,Z,Z,Z,Z,Z,Z,Z,Z,Z,Z,Z,Z,Z,Z,Z,Z,Z,Z,Z,Z,Z,Z,Z,Z,Z,Z,Z,Z,Z,Z,Z]
abbrev m6_10 : Array Bool := #[Y,Y,Y,Y,Y,Y,Z,Z,Z,Z,Z,Z,Z,Z,Z,Z,Z,Z,Z,Z,Z,Z,Z,Z,Z,Z,Z,Z,Z,Z,Z,Z,Z,Z,Z,Z,Z,Z,Z,Z,Z,Z,Z]
abbrev m7_10 : Array Bool := #[Y,Y,Y,Y,Y,Y,Y,Z,Z,Z,Z,Z,Z,Z,Z,Z,Z,Z,Z,Z,Z,Z,Z,Z,Z,Z,Z,Z,Z,Z,Z,Z,Z,Z,Z,Z,Z,Z,Z,Z,Z,Z,Z]
abbrev m8_10 : Array Bool := #[Y,Y,Y,Y,Y,Y,Y,Y,Z,Z,Z,Z,Z,Z,Z,Z,Z,Z,Z,Z,Z,Z,Z,Z,Z,Z,Z,Z,Z,Z,Z,Z,Z,Z,Z,Z,Z,Z,Z,Z,Z,Z,Z]
abbrev m9_10 : Array Bool := #[Y,Y,Y,Y,Y,Y,Y,Y,Y,Z,Z,Z,Z,Z,Z,Z,Z,Z,Z,Z,Z,Z,Z,Z,Z,Z,Z,Z,Z,Z,Z,Z,Z,Z,Z,Z,Z,Z,Z,Z,Z,Z,Z]
abbrev m10_10 : Array Bool := #[Y,Y,Y,Y,Y,Y,Y,Y,Y,Y,Z,Z,Z,Z,Z,Z,Z,Z,Z,Z,Z,Z,Z,Z,Z,Z,Z,Z,Z,Z,Z,Z,Z,Z,Z,Z,Z,Z,Z,Z,Z,Z,Z]
abbrev m11_10 : Array Bool := #[Y,Y,Y,Y,Y,Y,Y,Y,Y,Y,Y,Z,Z,Z,Z,Z,Z,Z,Z,Z,Z,Z,Z,Z,Z,Z,Z,Z,Z,Z,Z,Z,Z,Z,Z,Z,Z,Z,Z,Z,Z,Z,Z]
abbrev m12_10 : Array Bool := #[Y,Y,Y,Y,Y,Y,Y,Y,Y,Y,Y,Y,Z,Z,Z,Z,Z,Z,Z,Z,Z,Z,Z,Z,Z,Z,Z,Z,Z,Z,Z,Z,Z,Z,Z,Z,Z,Z,Z,Z,Z,Z,Z]
abbrev m13_10 : Array Bool := #[Y,Y,Y,Y,Y,Y,Y,Y,Y,Y,Y,Y,Y,Z,Z,Z,Z,Z,Z,Z,Z,Z,Z,Z,Z,Z,Z,Z,Z,Z,Z,Z,Z,Z,Z,Z,Z,Z,Z,Z,Z,Z,Z]
abbrev m14_10 : Array Bool := #[Y,Y,Y,Y,Y,Y,Y,Y,Y,Y,Y,Y,Y,Y,Z,Z,Z,Z,Z,Z,Z,Z,Z,Z,Z,Z,Z,Z,Z,Z,Z,Z,Z,Z,Z,Z,Z,Z,Z,Z,Z,Z,Z]
abbrev m15_10 : Array Bool := #[Y,Y,Y,Y,Y,Y,Y,Y,Y,Y,Y,Y,Y,Y,Y,Z,Z,Z,Z,Z,Z,Z,Z,Z,Z,Z,Z,Z,Z,Z,Z,Z,Z,Z,Z,Z,Z,Z,Z,Z,Z,Z,Z]
abbrev m16_10 : Array Bool := #[Y,Y,Y,Y,Y,Y,Y,Y,Y,Y,Y,Y,Y,Y,Y,Y,Z,Z,Z,Z,Z,Z,Z,Z,Z,Z,Z,Z,Z,Z,Z,Z,Z,Z,Z,Z,Z,Z,Z,Z,Z,Z,Z]
abbrev m17_10 : Array Bool := #[Y,Y,Y,Y,Y,Y,Y,Y,Y,Y,Y,Y,Y,Y,Y,Y,Y,Z,Z,Z,Z,Z,Z,Z,Z,Z,Z,Z,Z,Z,Z,Z,Z,Z,Z,Z,Z,Z,Z,Z,Z,Z,Z]
abbrev m18_10 : Array Bool := #[Y,Y,Y,Y,Y,Y,Y,Y,Y,Y,Y,Y,Y,Y,Y,Y,Y,Y,Z,Z,Z,Z,Z,Z,Z,Z,Z,Z,Z,Z,Z,Z,Z,Z,Z,Z,Z,Z,Z,Z,Z,Z,Z]
abbrev m19_10 : Array Bool := #[Y,Y,Y,Y,Y,Y,Y,Y,Y,Y,Y,Y,Y,Y,Y,Y,Y,Y,Y,Z,Z,Z,Z,Z,Z,Z,Z,Z,Z,Z,Z,Z,Z,Z,Z,Z,Z,Z,Z,Z,Z,Z,Z]
abbrev m20_10 : Array Bool := #[Y,Y,Y,Y,Y,Y,Y,Y,Y,Y,Y,Y,Y,Y,Y,Y,Y,Y,Y,Y,Z,Z,Z,Z,Z,Z,Z,Z,Z,Z,Z,Z,Z,Z,Z,Z,Z,Z,Z,Z,Z,Z,Z]
abbrev m21_10 : Array Bool := #[Y,Y,Y,Y,Y,Y,Y,Y,Y,Y,Y,Y,Y,Y,Y,Y,Y,Y,Y,Y,Y,Z,Z,Z,Z,Z,Z,Z,Z,Z,Z,Z,Z,Z,Z,Z,Z,Z,Z,Z,Z,Z,Z]
abbrev m22_10 : Array Bool := #[Y,Y,Y,Y,Y,Y,Y,Y,Y,Y,Y,Y,Y,Y,Y,Y,Y,Y,Y,Y,Y,Y,Z,Z,Z,Z,Z,Z,Z,Z,Z,Z,Z,Z,Z,Z,Z,Z,Z,Z,Z,Z,Z]
abbrev m23_10 : Array Bool := #[Y,Y,Y,Y,Y,Y,Y,Y,Y,Y,Y,Y,Y,Y,Y,Y,Y,Y,Y,Y,Y,Y,Y,Z,Z,Z,Z,Z,Z,Z,Z,Z,Z,Z,Z,Z,Z,Z,Z,Z,Z,Z,Z]
abbrev m24_10 : Array Bool := #[Y,Y,Y,Y,Y,Y,Y,Y,Y,Y,Y,Y,Y,Y,Y,Y,Y,Y,Y,Y,Y,Y,Y,Y,Z,Z,Z,Z,Z,Z,Z,Z,Z,Z,Z,Z,Z,Z,Z,Z,Z,Z,Z]
abbrev m25_10 : Array Bool := #[Y,Y,Y,Y,Y,Y,Y,Y,Y,Y,Y,Y,Y,Y,Y,Y,Y,Y,Y,Y,Y,Y,Y,Y,Y,Z,Z,Z,Z,Z,Z,Z,Z,Z,Z,Z,Z,Z,Z,Z,Z,Z,Z]
abbrev m26_10 : Array Bool := #[Y,Y,Y,Y,Y,Y,Y,Y,Y,Y,Y,Y,Y,Y,Y,Y,Y,Y,Y,Y,Y,Y,Y,Y,Y,Y,Z,Z,Z,Z,Z,Z,Z,Z,Z,Z,Z,Z,Z,Z,Z,Z,Z]
abbrev m27_10 : Array Bool := #[Y,Y,Y,Y,Y,Y,Y,Y,Y,Y,Y,Y,Y,Y,Y,Y,Y,Y,Y,Y,Y,Y,Y,Y,Y,Y,Y,Z,Z,Z,Z,Z,Z,Z,Z,Z,Z,Z,Z,Z,Z,Z,Z]
abbrev m28_10 : Array Bool := #[Y,Y,Y,Y,Y,Y,Y,Y,Y,Y,Y,Y,Y,Y,Y,Y,Y,Y,Y,Y,Y,Y,Y,Y,Y,Y,Y,Y,Z,Z,Z,Z,Z,Z,Z,Z,Z,Z,Z,Z,Z,Z,Z]
abbrev m29_10 : Array Bool := #[Y,Y,Y,Y,Y,Y,Y,Y,Y,Y,Y,Y,Y,Y,Y,Y,Y,Y,Y,Y,Y,Y,Y,Y,Y,Y,Y,Y,Y,Z,Z,Z,Z,Z,Z,Z,Z,Z,Z,Z,Z,Z,Z]
abbrev m30_10 : Array Bool := #[Y,Y,Y,Y,Y,Y,Y,Y,Y,Y,Y,Y,Y,Y,Y,Y,Y,Y,Y,Y,Y,Y,Y,Y,Y,Y,Y,Y,Y,Y,Z,Z,Z,Z,Z,Z,Z,Z,Z,Z,Z,Z,Z]
abbrev m31_10 : Array Bool := #[Y,Y,Y,Y,Y,Y,Y,Y,Y,Y,Y,Y,Y,Y,Y,Y,Y,Y,Y,Y,Y,Y,Y,Y,Y,Y,Y,Y,Y,Y,Y,Z,Z,Z,Z,Z,Z,Z,Z,Z,Z,Z,Z]
abbrev m32_10 : Array Bool := #[Y,Y,Y,Y,Y,Y,Y,Y,Y,Y,Y,Y,Y,Y,Y,Y,Y,Y,Y,Y,Y,Y,Y,Y,Y,Y,Y,Y,Y,Y,Y,Y,Z,Z,Z,Z,Z,Z,Z,Z,Z,Z,Z]
abbrev m33_10 : Array Bool := #[Y,Y,Y,Y,Y,Y,Y,Y,Y,Y,Y,Y,Y,Y,Y,Y,Y,Y,Y,Y,Y,Y,Y,Y,Y,Y,Y,Y,Y,Y,Y,Y,Y,Z,Z,Z,Z,Z,Z,Z,Z,Z,Z]
abbrev m34_10 : Array Bool := #[Y,Y,Y,Y,Y,Y,Y,Y,Y,Y,Y,Y,Y,Y,Y,Y,Y,Y,Y,Y,Y,Y,Y,Y,Y,Y,Y,Y,Y,Y,Y,Y,Y,Y,Z,Z,Z,Z,Z,Z,Z,Z,Z]
abbrev m35_10 : Array Bool := #[Y,Y,Y,Y,Y,Y,Y,Y,Y,Y,Y,Y,Y,Y,Y,Y,Y,Y,Y,Y,Y,Y,Y,Y,Y,Y,Y,Y,Y,Y,Y,Y,Y,Y,Z,Y,Z,Z,Z,Z,Z,Z,Z]
abbrev m36_10 : Array Bool := #[Y,Y,Y,Y,Y,Y,Y,Y,Y,Y,Y,Y,Y,Y,Y,Y,Y,Y,Y,Y,Y,Y,Y,Y,Y,Y,Y,Y,Y,Y,Y,Y,Y,Y,Z,Y,Y,Z,Z,Z,Z,Z,Z]
abbrev m37_10 : Array Bool := #[Y,Y,Y,Y,Y,Y,Y,Y,Y,Y,Y,Y,Y,Y,Y,Y,Y,Y,Y,Y,Y,Y,Y,Y,Y,Y,Y,Y,Y,Y,Y,Y,Y,Y,Z,Y,Y,Y,Z,Z,Z,Z,Z]
abbrev m38_10 : Array Bool := #[Y,Y,Y,Y,Y,Y,Y,Y,Y,Y,Y,Y,Y,Y,Y,Y,Y,Y,Y,Y,Y,Y,Y,Y,Y,Y,Y,Y,Y,Y,Y,Y,Y,Y,Z,Y,Y,Y,Y,Z,Z,Z,Z]
abbrev m39_10 : Array Bool := #[Y,Y,Y,Y,Y,Y,Y,Y,Y,Y,Y,Y,Y,Y,Y,Y,Y,Y,Y,Y,Y,Y,Y,Y,Y,Y,Y,Y,Y,Y,Y,Y,Y,Y,Y,Y,Y,Y,Y,Z,Z,Z,Z]
abbrev m40_10 : Array Bool := #[Y,Y,Y,Y,Y,Y,Y,Y,Y,Y,Y,Y,Y,Y,Y,Y,Y,Y,Y,Y,Y,Y,Y,Y,Y,Y,Y,Y,Y,Y,Y,Y,Y,Y,Y,Y,Y,Y,Y,Y,Z,Z,Z]
abbrev m41_10 : Array Bool := #[Y,Y,Y,Y,Y,Y,Y,Y,Y,Y,Y,Y,Y,Y,Y,Y,Y,Y,Y,Y,Y,Y,Y,Y,Y,Y,Y,Y,Y,Y,Y,Y,Y,Y,Y,Y,Y,Y,Y,Y,Y,Z,Z]
abbrev m42_10 : Array Bool := #[Y,Y,Y,Y,Y,Y,Y,Y,Y,Y,Y,Y,Y,Y,Y,Y,Y,Y,Y,Y,Y,Y,Y,Y,Y,Y,Y,Y,Y,Y,Y,Y,Y,Y,Y,Y,Y,Y,Y,Y,Y,Y,Z]
abbrev m43_10 : Array Bool := #[Y,Y,Y,Y,Y,Y,Y,Y,Y,Y,Y,Y,Y,Y,Y,Y,Y,Y,Y,Y,Y,Y,Y,Y,Y,Y,Y,Y,Y,Y,Y,Y,Y,Y,Y,Y,Y,Y,Y,Y,Y,Y,Y]
abbrev m44_10 : Array Bool := #[Y,Y,Y,Y,Y,Y,Y,Y,Y,Y,Y,Y,Y,Y,Y,Y,Y,Y,Y,Y,Y,Y,Y,Y,Y,Y,Y,Y,Y,Y,Y,Y,Y,Y,Y,Z,Z,Z,Z,Z,Z,Z,Z]
abbrev m45_10 : Array Bool := #[Y,Y,Y,Y,Y,Y,Y,Y,Y,Y,Y,Y,Y,Y,Y,Y,Y,Y,Y,Y,Y,Y,Y,Y,Y,Y,Y,Y,Y,Y,Y,Y,Y,Y,Y,Y,Z,Z,Z,Z,Z,Z,Z]
abbrev m46_10 : Array Bool := #[Y,Y,Y,Y,Y,Y,Y,Y,Y,Y,Y,Y,Y,Y,Y,Y,Y,Y,Y,Y,Y,Y,Y,Y,Y,Y,Y,Y,Y,Y,Y,Y,Y,Y,Y,Y,Y,Z,Z,Z,Z,Z,Z]
abbrev m47_10 : Array Bool := #[Y,Y,Y,Y,Y,Y,Y,Y,Y,Y,Y,Y,Y,Y,Y,Y,Y,Y,Y,Y,Y,Y,Y,Y,Y,Y,Y,Y,Y,Y,Y,Y,Y,Y,Y,Y,Y,Y,Z,Z,Z,Z,Z]
/-! ### spec_AreCrew: function 35 -/
def spec_AreCrew.l0 : Nat → List (S49) → Int → Option (Bool)
 | 0,_,_ => none
 | k + 1,x0,x3 => if x3 < (x0.length : Int) then (if 0 ≤ x3 then ((spec_l1In.f ((rd_T49 x0 x3).f0) 1 99).bind fun t245 => (if t245 = true then ((spec_l1In.f ((rd_T49 x0 x3).f1) 0 100).bind fun t247 => (if t247 = true then ((spec_l1In.f ((rd_T49 x0 x3).f2) 1 10).bind fun t249 => (if t249 = true then (if x3 > 0 then (if 0 ≤ (wrap64 (x3 - 1)) then (if (wrap64 (x3 - 1)) < (x0.length : Int) then (if ((rd_T49 x0 (wrap64 (x3 - 1))).f0) ≥ ((rd_T49 x0 x3).f0) then (some false) else (spec_AreCrew.l0 k x0 (wrap64 (x3 + 1)))) else (none)) else (none)) else (spec_AreCrew.l0 k x0 (wrap64 (x3 + 1)))) else (some false))) else (some false))) else (some false))) else (none)) else ((spec_l1In.f (x0.length : Int) 1 8).bind fun t243 => (some t243))
def spec_AreCrew.f (k : Nat) (l0 : List (S49)) : Option (Bool) := spec_AreCrew.l0 k l0 0
theorem spec_AreCrew.mono_l : ∀ k, (∀ y0 y1, LeO (spec_AreCrew.l0 k y0 y1) (spec_AreCrew.l0 (k + 1) y0 y1))
 | 0 => fun _ _ r h => by simp [spec_AreCrew.l0] at h
 | k + 1 => by
  have ih0:=spec_AreCrew.mono_l k
  ·intro y0 y1
   unfold spec_AreCrew.l0
   repeat' first
   | (with_reducible exact ih0 _ _)
   | (with_reducible exact LeO.refl _)
   | (with_reducible exact LeO.none _)
   | (with_reducible refine LeO.ite ?_ ?_)
   | (with_reducible refine LeO.bind ?_ (fun _ => ?_))
   | exact ih0 _ _
   | exact LeO.none _
   | refine LeO.ite ?_ ?_
   | refine LeO.bind ?_ (fun _ => ?_)
theorem spec_AreCrew.mono : ∀ a0 k, LeO (spec_AreCrew.f k a0) (spec_AreCrew.f (k + 1) a0) := by
 intro a0 k
 have ih0:=spec_AreCrew.mono_l k
 unfold spec_AreCrew.f
 repeat' first
   | (with_reducible exact ih0 _ _)
   | (with_reducible exact LeO.refl _)
   | (with_reducible exact LeO.none _)
   | (with_reducible refine LeO.ite ?_ ?_)
   | (with_reducible refine LeO.bind ?_ (fun _ => ?_))
   | exact ih0 _ _
   | exact LeO.none _
   | refine LeO.ite ?_ ?_
   | refine LeO.bind ?_ (fun _ => ?_)
def spec_AreCrew.T4 : Bool × List (List Nat × List Nat) := (true, [([], []), ([], []), ([0, 1], [0, 1]), ([2], [2]), ([3], [3]), ([4], [4]), ([5], [5]), ([6, 5], [6]), ([7], [7]), ([7], [7]), ([8, 9, 7], [7, 8, 9]), ([10, 7], [7, 10]), ([11, 7], [7, 11]), ([12, 7, 7], [7, 12]), ([13, 7], [7, 13]), ([7, 14], [7, 14]), ([15, 13], [15]), ([16], [16]), ([16], [16]), ([17, 18, 16], [16, 17, 18]), ([19, 16], [16, 19]), ([20, 16], [16, 20]), ([21, 16, 16], [16, 21]), ([22, 16], [16, 22]), ([16, 23], [16, 23]), ([24, 22], [24]), ([25], [25]), ([26, 25], [25, 26]), ([27, 25, 25], [25, 27]), ([28], [28]), ([28], [28]), ([30, 28], [28, 30]), ([29, 31, 28], [28, 29, 31]), ([32, 28], [28, 32]), ([33, 28], [28, 33]), ([28], [28]), ([28], [28]), ([35, 36, 28], [28, 35, 36]), ([37, 28], [28, 37]), ([38, 28], [28, 38]), ([34, 39, 28], [28, 34, 39]), ([28, 40, 25], [25, 28, 40]), ([25, 41], [25, 41])])
def spec_AreCrew.B4 : List Nat := [0, 0, 3, 7, 15, 31, 63, 127, 255, 255, 1023, 2047, 4095, 8191, 16383, 32767, 65535, 131071, 131071, 524287, 1048575, 2097151, 4194303, 8388607, 16777215, 33554431, 67108863, 134217727, 268435455, 536870911, 536870911, 1610612735, 4294967295, 8589934591, 17179869183, 536870911, 536870911, 103616086015, 241055039487, 515932946431, 1099511627775, 2199023255551, 4398046511103]
theorem spec_AreCrew.tab4 : rtab .any (opsOf Try.f35 4) = spec_AreCrew.T4 := by kernel_rfl
theorem spec_AreCrew.bits4 : waitsOk spec_AreCrew.T4.2 spec_AreCrew.B4 = true := by kernel_rfl
set_option maxHeartbeats 8000000 in
set_option maxRecDepth 100000 in
theorem spec_AreCrew.calls (k : Nat) (A0 : Option Addr) (c0 : Nat) (l0 : List (S49)) (r : Bool) (w : World) (hr0 : Kd.C k49 w A0 l0.length l0) (hc0 : l0.length ≤ c0) (h : spec_AreCrew.f k l0 = some r) :
  Calls Try.prog 35 #[.slice A0 l0.length c0] w fun e w' => e = .returned (.bool r) ∧ Below w.heap.size w w':=by
 have HR0:=am hr0;have HC0:=am hc0;clear hr0 hc0;have HB:=am qq135;have H : (spec_AreCrew.l0 k l0 0) = some r:=h;clear h;have H':=am H;clear H
 go_enter Try.func35,Try.ntmps35
 go_wp2
 go_loopg [3] k (fun kq v3 w' => ∃ (x3_1 : Int),v3 = .int .i64 x3_1 ∧ Aside0 (spec_AreCrew.l0 kq l0 x3_1 = some r) ∧ Aside0 (kq ≤ k) ∧ Aside0 (Below w.heap.size w w'))
 case atStart => exact ⟨(0),qq95,H',⟨Nat.le_refl _⟩,⟨qq73⟩⟩
 case round =>
  clear H';obtain ⟨x3_1,rfl,HA,HK1,HB⟩:=hrel
  cases gk with
  | zero => exact absurd HA.out (by simp [spec_AreCrew.l0])
  | succ k1 =>
   have H:=HA.out;clear HA;simp only [spec_AreCrew.l0] at H
   by_cases c2 : x3_1 < (l0.length : Int)
   ·rw [if_pos c2] at H;have c2b0 : decide (x3_1 < (l0.length : Int)) = true:=decide_eq_true c2;clear c2
    by_cases c3 : 0 ≤ x3_1
    ·rw [if_pos c3] at H;have c3b0 : decide (0 ≤ x3_1) = true:=decide_eq_true c3;clear c3;replace H:=bS.mp H;obtain ⟨t245,A40,H⟩:=H;replace H : (if t245 = true then ((spec_l1In.f ((rd_T49 l0 x3_1).f1) 0 100).bind fun t247 => (if t247 = true then ((spec_l1In.f ((rd_T49 l0 x3_1).f2) 1 10).bind fun t249 => (if t249 = true then (if x3_1 > 0 then (if 0 ≤ (wrap64 (x3_1 - 1)) then (if (wrap64 (x3_1 - 1)) < (l0.length : Int) then (if ((rd_T49 l0 (wrap64 (x3_1 - 1))).f0) ≥ ((rd_T49 l0 x3_1).f0) then (some false) else (spec_AreCrew.l0 k1 l0 (wrap64 (x3_1 + 1)))) else (none)) else (none)) else (spec_AreCrew.l0 k1 l0 (wrap64 (x3_1 + 1)))) else (some false))) else (some false))) else (some false)) = some r:=H;have A4:=am A40;clear A40
     by_cases c5 : t245 = true
     ·subst c5;have H1 : ((spec_l1In.f ((rd_T49 l0 x3_1).f1) 0 100).bind fun t247 => (if t247 = true then ((spec_l1In.f ((rd_T49 l0 x3_1).f2) 1 10).bind fun t249 => (if t249 = true then (if x3_1 > 0 then (if 0 ≤ (wrap64 (x3_1 - 1)) then (if (wrap64 (x3_1 - 1)) < (l0.length : Int) then (if ((rd_T49 l0 (wrap64 (x3_1 - 1))).f0) ≥ ((rd_T49 l0 x3_1).f0) then (some false) else (spec_AreCrew.l0 k1 l0 (wrap64 (x3_1 + 1)))) else (none)) else (none)) else (spec_AreCrew.l0 k1 l0 (wrap64 (x3_1 + 1)))) else (some false))) else (some false))) = some r:=by rw [if_pos rfl] at H;exact H
      clear H;have H:=H1;clear H1;replace H:=bS.mp H;obtain ⟨t247,A60,H⟩:=H;replace H : (if t247 = true then ((spec_l1In.f ((rd_T49 l0 x3_1).f2) 1 10).bind fun t249 => (if t249 = true then (if x3_1 > 0 then (if 0 ≤ (wrap64 (x3_1 - 1)) then (if (wrap64 (x3_1 - 1)) < (l0.length : Int) then (if ((rd_T49 l0 (wrap64 (x3_1 - 1))).f0) ≥ ((rd_T49 l0 x3_1).f0) then (some false) else (spec_AreCrew.l0 k1 l0 (wrap64 (x3_1 + 1)))) else (none)) else (none)) else (spec_AreCrew.l0 k1 l0 (wrap64 (x3_1 + 1)))) else (some false))) else (some false)) = some r:=H;have A6:=am A60;clear A60
      by_cases c7 : t247 = true
      ·subst c7;have H1 : ((spec_l1In.f ((rd_T49 l0 x3_1).f2) 1 10).bind fun t249 => (if t249 = true then (if x3_1 > 0 then (if 0 ≤ (wrap64 (x3_1 - 1)) then (if (wrap64 (x3_1 - 1)) < (l0.length : Int) then (if ((rd_T49 l0 (wrap64 (x3_1 - 1))).f0) ≥ ((rd_T49 l0 x3_1).f0) then (some false) else (spec_AreCrew.l0 k1 l0 (wrap64 (x3_1 + 1)))) else (none)) else (none)) else (spec_AreCrew.l0 k1 l0 (wrap64 (x3_1 + 1)))) else (some false))) = some r:=by rw [if_pos rfl] at H;exact H
       clear H;have H:=H1;clear H1;replace H:=bS.mp H;obtain ⟨t249,A80,H⟩:=H;replace H : (if t249 = true then (if x3_1 > 0 then (if 0 ≤ (wrap64 (x3_1 - 1)) then (if (wrap64 (x3_1 - 1)) < (l0.length : Int) then (if ((rd_T49 l0 (wrap64 (x3_1 - 1))).f0) ≥ ((rd_T49 l0 x3_1).f0) then (some false) else (spec_AreCrew.l0 k1 l0 (wrap64 (x3_1 + 1)))) else (none)) else (none)) else (spec_AreCrew.l0 k1 l0 (wrap64 (x3_1 + 1)))) else (some false)) = some r:=H;have A8:=am A80;clear A80
       by_cases c9 : t249 = true
       ·subst c9;have H1 : (if x3_1 > 0 then (if 0 ≤ (wrap64 (x3_1 - 1)) then (if (wrap64 (x3_1 - 1)) < (l0.length : Int) then (if ((rd_T49 l0 (wrap64 (x3_1 - 1))).f0) ≥ ((rd_T49 l0 x3_1).f0) then (some false) else (spec_AreCrew.l0 k1 l0 (wrap64 (x3_1 + 1)))) else (none)) else (none)) else (spec_AreCrew.l0 k1 l0 (wrap64 (x3_1 + 1)))) = some r:=by rw [if_pos rfl] at H;exact H
        clear H;have H:=H1;clear H1
        by_cases c10 : x3_1 > 0
        ·rw [if_pos c10] at H;have c10b0 : decide (0 < x3_1) = true:=decide_eq_true c10;clear c10;obtain ⟨ji11,hji11⟩ : ∃ j_ : Int,(wrap64 (x3_1 - 1)) = j_:=⟨_,rfl⟩
         replace H : (if 0 ≤ (ji11) then (if (ji11) < (l0.length : Int) then (if ((rd_T49 l0 (ji11)).f0) ≥ ((rd_T49 l0 x3_1).f0) then (some false) else (spec_AreCrew.l0 k1 l0 (wrap64 (x3_1 + 1)))) else (none)) else (none)) = some r:=by first | (rw [hji11] at H;exact H) | (simp only [hji11] at H ⊢;exact H)
         (try rw [hji11] at A4);(try rw [hji11] at A6);(try rw [hji11] at A8);have hji11w : (IntKind.i64.wrap (x3_1 - 1)) = ji11:=(i64_w _).trans hji11
         by_cases c12 : 0 ≤ (ji11)
         ·rw [if_pos c12] at H;have c12b0 : decide (0 ≤ (ji11)) = true:=decide_eq_true c12;clear c12
          by_cases c13 : (ji11) < (l0.length : Int)
          ·rw [if_pos c13] at H;have c13b0 : decide ((ji11) < (l0.length : Int)) = true:=decide_eq_true c13;clear c13
           by_cases c14 : ((rd_T49 l0 (ji11)).f0) ≥ ((rd_T49 l0 x3_1).f0)
           ·rw [if_pos c14] at H;have c14b0 : decide (((rd_T49 l0 x3_1).f0) ≤ ((rd_T49 l0 (ji11)).f0)) = true:=decide_eq_true c14;clear c14;obtain rfl:=Option.some.inj H
            try go_wp2
            replace HB:=am qq141;have p244 : 0 ≤ (x3_1 : Int):=odt qq94;have q244 : x3_1 < (l0.length : Int):=odt qq94;obtain ⟨ad244,e244,hx244_0,hx244_1,hx244_2,hx244_3⟩:=at_T49 HR0.out x3_1 p244 q244;have hw244_3:=hx244_3;have hw244_2:=hx244_2;have hw244_1:=hx244_1;have hw244_0:=hx244_0
            cases e244
            replace hx244_0:=(ct HB.out hx244_0 :)
            replace hx244_1:=(ct HB.out hx244_1 :)
            replace hx244_2:=(ct HB.out hx244_2 :)
            replace hx244_3:=(ct HB.out hx244_3 :)
            replace p244:=eq_true p244;replace q244:=eq_true q244;have p246 : 0 ≤ (x3_1 : Int):=odt qq94;have q246 : x3_1 < (l0.length : Int):=odt qq94;obtain ⟨ad246,e246,hx246_0,hx246_1,hx246_2,hx246_3⟩:=at_T49 HR0.out x3_1 p246 q246;have hw246_3:=hx246_3;have hw246_2:=hx246_2;have hw246_1:=hx246_1;have hw246_0:=hx246_0;obtain rfl : ad244 = ad246:=(by injection e246)
            replace hx246_0:=(ct HB.out hx246_0 :)
            replace hx246_1:=(ct HB.out hx246_1 :)
            replace hx246_2:=(ct HB.out hx246_2 :)
            replace hx246_3:=(ct HB.out hx246_3 :)
            replace p246:=eq_true p246;replace q246:=eq_true q246;have p248 : 0 ≤ (x3_1 : Int):=odt qq94;have q248 : x3_1 < (l0.length : Int):=odt qq94;obtain ⟨ad248,e248,hx248_0,hx248_1,hx248_2,hx248_3⟩:=at_T49 HR0.out x3_1 p248 q248;have hw248_3:=hx248_3;have hw248_2:=hx248_2;have hw248_1:=hx248_1;have hw248_0:=hx248_0;obtain rfl : ad244 = ad248:=(by injection e248)
            replace hx248_0:=(ct HB.out hx248_0 :)
            replace hx248_1:=(ct HB.out hx248_1 :)
            replace hx248_2:=(ct HB.out hx248_2 :)
            replace hx248_3:=(ct HB.out hx248_3 :)
            replace p248:=eq_true p248;replace q248:=eq_true q248;have p250 : 0 ≤ ((ji11) : Int):=odt qq94;have q250 : (ji11) < (l0.length : Int):=odt qq94;obtain ⟨ad250,e250,hx250_0,hx250_1,hx250_2,hx250_3⟩:=at_T49 HR0.out (ji11) p250 q250;have hw250_3:=hx250_3;have hw250_2:=hx250_2;have hw250_1:=hx250_1;have hw250_0:=hx250_0;obtain rfl : ad244 = ad250:=(by injection e250)
            replace hx250_0:=(ct HB.out hx250_0 :)
            replace hx250_1:=(ct HB.out hx250_1 :)
            replace hx250_2:=(ct HB.out hx250_2 :)
            replace hx250_3:=(ct HB.out hx250_3 :)
            replace p250:=eq_true p250;replace q250:=eq_true q250;have p251 : 0 ≤ (x3_1 : Int):=odt qq94;have q251 : x3_1 < (l0.length : Int):=odt qq94;obtain ⟨ad251,e251,hx251_0,hx251_1,hx251_2,hx251_3⟩:=at_T49 HR0.out x3_1 p251 q251;have hw251_3:=hx251_3;have hw251_2:=hx251_2;have hw251_1:=hx251_1;have hw251_0:=hx251_0;obtain rfl : ad244 = ad251:=(by injection e251)
            replace hx251_0:=(ct HB.out hx251_0 :)
            replace hx251_1:=(ct HB.out hx251_1 :)
            replace hx251_2:=(ct HB.out hx251_2 :)
            replace hx251_3:=(ct HB.out hx251_3 :)
            replace p251:=eq_true p251;replace q251:=eq_true q251;refine start_ (n:=43) (S:=fun w' => w'.cell? (ad244.add ((x3_1).toNat * 4)) = some (.int .i64 ((rd_T49 l0 x3_1).f0)) ∧ w'.cell? ⟨(ad244.add ((x3_1).toNat * 4)).block,(ad244.add ((x3_1).toNat * 4)).off + 1,none⟩ = some (.int .i64 ((rd_T49 l0 x3_1).f1)) ∧ w'.cell? ⟨(ad244.add ((x3_1).toNat * 4)).block,(ad244.add ((x3_1).toNat * 4)).off + 2,none⟩ = some (.int .i64 ((rd_T49 l0 x3_1).f2)) ∧ w'.cell? ⟨(ad244.add ((x3_1).toNat * 4)).block,(ad244.add ((x3_1).toNat * 4)).off + 3,none⟩ = some (.bool ((rd_T49 l0 x3_1).f3)) ∧ w'.cell? (ad244.add ((x3_1).toNat * 4)) = some (.int .i64 ((rd_T49 l0 x3_1).f0)) ∧ w'.cell? ⟨(ad244.add ((x3_1).toNat * 4)).block,(ad244.add ((x3_1).toNat * 4)).off + 1,none⟩ = some (.int .i64 ((rd_T49 l0 x3_1).f1)) ∧ w'.cell? ⟨(ad244.add ((x3_1).toNat * 4)).block,(ad244.add ((x3_1).toNat * 4)).off + 2,none⟩ = some (.int .i64 ((rd_T49 l0 x3_1).f2)) ∧ w'.cell? ⟨(ad244.add ((x3_1).toNat * 4)).block,(ad244.add ((x3_1).toNat * 4)).off + 3,none⟩ = some (.bool ((rd_T49 l0 x3_1).f3)) ∧ w'.cell? (ad244.add ((x3_1).toNat * 4)) = some (.int .i64 ((rd_T49 l0 x3_1).f0)) ∧ w'.cell? ⟨(ad244.add ((x3_1).toNat * 4)).block,(ad244.add ((x3_1).toNat * 4)).off + 1,none⟩ = some (.int .i64 ((rd_T49 l0 x3_1).f1)) ∧ w'.cell? ⟨(ad244.add ((x3_1).toNat * 4)).block,(ad244.add ((x3_1).toNat * 4)).off + 2,none⟩ = some (.int .i64 ((rd_T49 l0 x3_1).f2)) ∧ w'.cell? ⟨(ad244.add ((x3_1).toNat * 4)).block,(ad244.add ((x3_1).toNat * 4)).off + 3,none⟩ = some (.bool ((rd_T49 l0 x3_1).f3)) ∧ w'.cell? (ad244.add (((ji11)).toNat * 4)) = some (.int .i64 ((rd_T49 l0 (ji11)).f0)) ∧ w'.cell? ⟨(ad244.add (((ji11)).toNat * 4)).block,(ad244.add (((ji11)).toNat * 4)).off + 1,none⟩ = some (.int .i64 ((rd_T49 l0 (ji11)).f1)) ∧ w'.cell? ⟨(ad244.add (((ji11)).toNat * 4)).block,(ad244.add (((ji11)).toNat * 4)).off + 2,none⟩ = some (.int .i64 ((rd_T49 l0 (ji11)).f2)) ∧ w'.cell? ⟨(ad244.add (((ji11)).toNat * 4)).block,(ad244.add (((ji11)).toNat * 4)).off + 3,none⟩ = some (.bool ((rd_T49 l0 (ji11)).f3)) ∧ w'.cell? (ad244.add ((x3_1).toNat * 4)) = some (.int .i64 ((rd_T49 l0 x3_1).f0)) ∧ w'.cell? ⟨(ad244.add ((x3_1).toNat * 4)).block,(ad244.add ((x3_1).toNat * 4)).off + 1,none⟩ = some (.int .i64 ((rd_T49 l0 x3_1).f1)) ∧ w'.cell? ⟨(ad244.add ((x3_1).toNat * 4)).block,(ad244.add ((x3_1).toNat * 4)).off + 2,none⟩ = some (.int .i64 ((rd_T49 l0 x3_1).f2)) ∧ w'.cell? ⟨(ad244.add ((x3_1).toNat * 4)).block,(ad244.add ((x3_1).toNat * 4)).off + 3,none⟩ = some (.bool ((rd_T49 l0 x3_1).f3))) (ds:=[]) m0_10 (by kernel_rfl) rfl rfl ⟨(ct HB.out hw244_0 :),(ct HB.out hw244_1 :),(ct HB.out hw244_2 :),(ct HB.out hw244_3 :),(ct HB.out hw246_0 :),(ct HB.out hw246_1 :),(ct HB.out hw246_2 :),(ct HB.out hw246_3 :),(ct HB.out hw248_0 :),(ct HB.out hw248_1 :),(ct HB.out hw248_2 :),(ct HB.out hw248_3 :),(ct HB.out hw250_0 :),(ct HB.out hw250_1 :),(ct HB.out hw250_2 :),(ct HB.out hw250_3 :),(ct HB.out hw251_0 :),(ct HB.out hw251_1 :),(ct HB.out hw251_2 :),(ct HB.out hw251_3 :)⟩ (fun hHeld => ?_);refine with_tabW spec_AreCrew.tab4 spec_AreCrew.bits4 (fun HT_ HW_ => ?_)
            generalize wr.drew = w15 at HB hx244_0 hx244_1 hx244_2 hx244_3 hx246_0 hx246_1 hx246_2 hx246_3 hx248_0 hx248_1 hx248_2 hx248_3 hx250_0 hx250_1 hx250_2 hx250_3 hx251_0 hx251_1 hx251_2 hx251_3 hHeld ⊢
            refine pV (i:=0) (N:=some 10) m1_10 rfl rfl qT ?_
            refine pV (i:=1) (N:=some 11) m2_10 rfl rfl qT ?_
            refine pV (i:=2) (N:=some 12) m3_10 rfl rfl qT ?_
            refine pV (i:=3) (N:=some 13) m4_10 rfl rfl qT ?_
            refine take_ (i:=4) (N:=some 14) (v:=?_) (a':=?_) m5_10 rfl rfl (take_ofW HT_.out HW_.out (by kernel_rfl)) (fun _ _ _ h => h) (Or.inl ⟨by rfl,?_⟩) hHeld ?_ ?_;rotate_left
            ·rintro w' ⟨s0,s1,s2,s3,s4,s5,s6,s7,s8,s9,s10,s11,s12,s13,s14,s15,s16,s17,s18,s19⟩
             go_simp;with_reducible rfl
            rotate_left
            ·simp only [Act.put,sA,s0,s1,i64_w,i32_w];rfl
            refine one_ (i:=5) (N:=some 15) m6_10 rfl rfl (one_of HT_.out (by kernel_rfl)) (by decide) (fun K hK => ?_);refine goes_ Try.func47 (by kernel_rfl) rfl #[.int .i64 ((rd_T49 l0 x3_1).f0),.int .i64 1,.int .i64 99] (by rfl) rfl rfl qq50 ?_;with_reducible refine (spec_l1In.calls ((rd_T49 l0 x3_1).f0) 1 99 true _ A4.out).mono ?_
            rintro e w' ⟨rfl,⟨nd,rfl⟩⟩
            refine ⟨_,rfl,?_⟩;refine hK.out _ _ ⟨(ct HB.out hw244_0 :),(ct HB.out hw244_1 :),(ct HB.out hw244_2 :),(ct HB.out hw244_3 :),(ct HB.out hw246_0 :),(ct HB.out hw246_1 :),(ct HB.out hw246_2 :),(ct HB.out hw246_3 :),(ct HB.out hw248_0 :),(ct HB.out hw248_1 :),(ct HB.out hw248_2 :),(ct HB.out hw248_3 :),(ct HB.out hw250_0 :),(ct HB.out hw250_1 :),(ct HB.out hw250_2 :),(ct HB.out hw250_3 :),(ct HB.out hw251_0 :),(ct HB.out hw251_1 :),(ct HB.out hw251_2 :),(ct HB.out hw251_3 :)⟩ (fun hHeld => ?_);clear hK K;refine norm_ (a':=?_) ?_ ?_;rotate_left
            ·show Act.put _ (some 15) _ = _
             simp only [Act.put,sA,s0,s1,i64_w,i32_w];rfl
            refine pV (i:=6) (N:=some 16) m7_10 rfl rfl qT ?_
            refine pV (i:=7) (N:=some 17) m8_10 rfl rfl qT ?_
            refine pV (i:=8) (N:=some 18) m9_10 rfl rfl qT ?_
            refine pV (i:=9) (N:=some 19) m10_10 rfl rfl qT ?_
            refine pV (i:=10) (N:=some 20) m11_10 rfl rfl qT ?_
            refine pV (i:=11) (N:=some 21) m12_10 rfl rfl qT ?_
            refine take_ (i:=12) (N:=some 22) (v:=?_) (a':=?_) m13_10 rfl rfl (take_ofW HT_.out HW_.out (by kernel_rfl)) (fun _ _ _ h => h) (Or.inl ⟨by rfl,?_⟩) hHeld ?_ ?_;rotate_left
            ·rintro w' ⟨s0,s1,s2,s3,s4,s5,s6,s7,s8,s9,s10,s11,s12,s13,s14,s15,s16,s17,s18,s19⟩
             go_simp;with_reducible rfl
            rotate_left
            ·simp only [Act.put,sA,s0,s1,i64_w,i32_w];rfl
            refine one_ (i:=13) (N:=some 23) m14_10 rfl rfl (one_of HT_.out (by kernel_rfl)) (by decide) (fun K hK => ?_);refine goes_ Try.func47 (by kernel_rfl) rfl #[.int .i64 ((rd_T49 l0 x3_1).f1),.int .i64 0,.int .i64 100] (by rfl) rfl rfl qq50 ?_;with_reducible refine (spec_l1In.calls ((rd_T49 l0 x3_1).f1) 0 100 true _ A6.out).mono ?_
            rintro e w' ⟨rfl,⟨nd,rfl⟩⟩
            refine ⟨_,rfl,?_⟩;refine hK.out _ _ ⟨(ct HB.out hw244_0 :),(ct HB.out hw244_1 :),(ct HB.out hw244_2 :),(ct HB.out hw244_3 :),(ct HB.out hw246_0 :),(ct HB.out hw246_1 :),(ct HB.out hw246_2 :),(ct HB.out hw246_3 :),(ct HB.out hw248_0 :),(ct HB.out hw248_1 :),(ct HB.out hw248_2 :),(ct HB.out hw248_3 :),(ct HB.out hw250_0 :),(ct HB.out hw250_1 :),(ct HB.out hw250_2 :),(ct HB.out hw250_3 :),(ct HB.out hw251_0 :),(ct HB.out hw251_1 :),(ct HB.out hw251_2 :),(ct HB.out hw251_3 :)⟩ (fun hHeld => ?_);clear hK K;refine norm_ (a':=?_) ?_ ?_;rotate_left
            ·show Act.put _ (some 23) _ = _
             simp only [Act.put,sA,s0,s1,i64_w,i32_w];rfl
            refine pV (i:=14) (N:=some 24) m15_10 rfl rfl qT ?_
            refine pV (i:=15) (N:=some 25) m16_10 rfl rfl qT ?_
            refine pV (i:=16) (N:=some 26) m17_10 rfl rfl qT ?_
            refine pV (i:=17) (N:=some 27) m18_10 rfl rfl qT ?_
            refine pV (i:=18) (N:=some 28) m19_10 rfl rfl qT ?_
            refine pV (i:=19) (N:=some 29) m20_10 rfl rfl qT ?_
            refine pV (i:=20) (N:=some 30) m21_10 rfl rfl qT ?_
            refine take_ (i:=21) (N:=some 31) (v:=?_) (a':=?_) m22_10 rfl rfl (take_ofW HT_.out HW_.out (by kernel_rfl)) (fun _ _ _ h => h) (Or.inl ⟨by rfl,?_⟩) hHeld ?_ ?_;rotate_left
            ·rintro w' ⟨s0,s1,s2,s3,s4,s5,s6,s7,s8,s9,s10,s11,s12,s13,s14,s15,s16,s17,s18,s19⟩
             go_simp;with_reducible rfl
            rotate_left
            ·simp only [Act.put,sA,s0,s1,i64_w,i32_w];rfl
            refine one_ (i:=22) (N:=some 32) m23_10 rfl rfl (one_of HT_.out (by kernel_rfl)) (by decide) (fun K hK => ?_);refine goes_ Try.func47 (by kernel_rfl) rfl #[.int .i64 ((rd_T49 l0 x3_1).f2),.int .i64 1,.int .i64 10] (by rfl) rfl rfl qq50 ?_;with_reducible refine (spec_l1In.calls ((rd_T49 l0 x3_1).f2) 1 10 true _ A8.out).mono ?_
            rintro e w' ⟨rfl,⟨nd,rfl⟩⟩
            refine ⟨_,rfl,?_⟩;refine hK.out _ _ ⟨(ct HB.out hw244_0 :),(ct HB.out hw244_1 :),(ct HB.out hw244_2 :),(ct HB.out hw244_3 :),(ct HB.out hw246_0 :),(ct HB.out hw246_1 :),(ct HB.out hw246_2 :),(ct HB.out hw246_3 :),(ct HB.out hw248_0 :),(ct HB.out hw248_1 :),(ct HB.out hw248_2 :),(ct HB.out hw248_3 :),(ct HB.out hw250_0 :),(ct HB.out hw250_1 :),(ct HB.out hw250_2 :),(ct HB.out hw250_3 :),(ct HB.out hw251_0 :),(ct HB.out hw251_1 :),(ct HB.out hw251_2 :),(ct HB.out hw251_3 :)⟩ (fun hHeld => ?_);clear hK K;refine norm_ (a':=?_) ?_ ?_;rotate_left
            ·show Act.put _ (some 32) _ = _
             simp only [Act.put,sA,s0,s1,i64_w,i32_w];rfl
            refine pV (i:=23) (N:=some 33) m24_10 rfl rfl qT ?_
            refine pV (i:=24) (N:=some 34) m25_10 rfl rfl qT ?_
            refine pV (i:=25) (N:=some 35) m26_10 rfl rfl qT ?_
            refine pV (i:=26) (N:=some 36) m27_10 rfl rfl qT ?_
            refine pV (i:=27) (N:=some 37) m28_10 rfl rfl qT ?_
            refine pV (i:=28) (N:=some 38) m29_10 rfl rfl qT ?_
            refine pV (i:=29) (N:=some 39) m30_10 rfl rfl qT ?_
            refine pV (i:=30) (N:=some 40) m31_10 rfl rfl qT ?_
            refine pV (i:=31) (N:=some 41) m32_10 rfl rfl qT ?_
            refine pV (i:=32) (N:=some 42) m33_10 rfl rfl qT ?_
            refine pV (i:=33) (N:=some 43) m34_10 rfl rfl qT ?_
            refine pV (i:=35) (N:=some 45) m35_10 rfl rfl qT ?_
            refine pV (i:=36) (N:=some 46) m36_10 rfl rfl qT ?_
            refine pV (i:=37) (N:=some 47) m37_10 rfl rfl qT ?_
            refine pV (i:=38) (N:=some 48) m38_10 rfl rfl qT ?_
            refine take_ (i:=34) (N:=some 44) (v:=?_) (a':=?_) m39_10 rfl rfl (take_ofW HT_.out HW_.out (by kernel_rfl)) (fun _ _ _ h => h) (Or.inl ⟨by rfl,?_⟩) hHeld ?_ ?_;rotate_left
            ·rintro w' ⟨s0,s1,s2,s3,s4,s5,s6,s7,s8,s9,s10,s11,s12,s13,s14,s15,s16,s17,s18,s19⟩
             go_simp;with_reducible rfl
            rotate_left
            ·simp only [Act.put,sA,s0,s1,i64_w,i32_w];rfl
            refine take_ (i:=39) (N:=some 49) (v:=?_) (a':=?_) m40_10 rfl rfl (take_ofW HT_.out HW_.out (by kernel_rfl)) (fun _ _ _ h => h) (Or.inl ⟨by rfl,?_⟩) hHeld ?_ ?_;rotate_left
            ·rintro w' ⟨s0,s1,s2,s3,s4,s5,s6,s7,s8,s9,s10,s11,s12,s13,s14,s15,s16,s17,s18,s19⟩
             go_simp;with_reducible rfl
            rotate_left
            ·simp only [Act.put,sA,s0,s1,i64_w,i32_w];rfl
            refine pV (i:=40) (N:=some 50) m41_10 rfl rfl qT ?_
            refine pV (i:=41) (N:=some 51) m42_10 rfl rfl qT ?_
            refine pV (i:=42) (N:=some 52) m43_10 rfl rfl qT ?_
            refine done_ (done_of HT_.out (by kernel_rfl)) ?_
            try go_wp2
            go_ret
            exact ⟨by first | rfl | (simp [errW_none,errW_some] <;> rfl) | (simp only [← hji11];first | rfl | (simp [errW_none,errW_some] <;> rfl)) | (simp [*,errW_none,errW_some] <;> rfl),qq73⟩
           ·rw [if_neg c14] at H;have c14b0 : decide (((rd_T49 l0 x3_1).f0) ≤ ((rd_T49 l0 (ji11)).f0)) = false:=decide_eq_false c14;clear c14;have H':=am H;clear H
            try go_wp2
            replace HB:=am qq141;have p244 : 0 ≤ (x3_1 : Int):=odt qq94;have q244 : x3_1 < (l0.length : Int):=odt qq94;obtain ⟨ad244,e244,hx244_0,hx244_1,hx244_2,hx244_3⟩:=at_T49 HR0.out x3_1 p244 q244;have hw244_3:=hx244_3;have hw244_2:=hx244_2;have hw244_1:=hx244_1;have hw244_0:=hx244_0
            cases e244
            replace hx244_0:=(ct HB.out hx244_0 :)
            replace hx244_1:=(ct HB.out hx244_1 :)
            replace hx244_2:=(ct HB.out hx244_2 :)
            replace hx244_3:=(ct HB.out hx244_3 :)
            replace p244:=eq_true p244;replace q244:=eq_true q244;have p246 : 0 ≤ (x3_1 : Int):=odt qq94;have q246 : x3_1 < (l0.length : Int):=odt qq94;obtain ⟨ad246,e246,hx246_0,hx246_1,hx246_2,hx246_3⟩:=at_T49 HR0.out x3_1 p246 q246;have hw246_3:=hx246_3;have hw246_2:=hx246_2;have hw246_1:=hx246_1;have hw246_0:=hx246_0;obtain rfl : ad244 = ad246:=(by injection e246)
            replace hx246_0:=(ct HB.out hx246_0 :)
            replace hx246_1:=(ct HB.out hx246_1 :)
            replace hx246_2:=(ct HB.out hx246_2 :)
            replace hx246_3:=(ct HB.out hx246_3 :)
            replace p246:=eq_true p246;replace q246:=eq_true q246;have p248 : 0 ≤ (x3_1 : Int):=odt qq94;have q248 : x3_1 < (l0.length : Int):=odt qq94;obtain ⟨ad248,e248,hx248_0,hx248_1,hx248_2,hx248_3⟩:=at_T49 HR0.out x3_1 p248 q248;have hw248_3:=hx248_3;have hw248_2:=hx248_2;have hw248_1:=hx248_1;have hw248_0:=hx248_0;obtain rfl : ad244 = ad248:=(by injection e248)
            replace hx248_0:=(ct HB.out hx248_0 :)
            replace hx248_1:=(ct HB.out hx248_1 :)
            replace hx248_2:=(ct HB.out hx248_2 :)
            replace hx248_3:=(ct HB.out hx248_3 :)
            replace p248:=eq_true p248;replace q248:=eq_true q248;have p250 : 0 ≤ ((ji11) : Int):=odt qq94;have q250 : (ji11) < (l0.length : Int):=odt qq94;obtain ⟨ad250,e250,hx250_0,hx250_1,hx250_2,hx250_3⟩:=at_T49 HR0.out (ji11) p250 q250;have hw250_3:=hx250_3;have hw250_2:=hx250_2;have hw250_1:=hx250_1;have hw250_0:=hx250_0;obtain rfl : ad244 = ad250:=(by injection e250)
            replace hx250_0:=(ct HB.out hx250_0 :)
            replace hx250_1:=(ct HB.out hx250_1 :)
            replace hx250_2:=(ct HB.out hx250_2 :)
            replace hx250_3:=(ct HB.out hx250_3 :)
            replace p250:=eq_true p250;replace q250:=eq_true q250;have p251 : 0 ≤ (x3_1 : Int):=odt qq94;have q251 : x3_1 < (l0.length : Int):=odt qq94;obtain ⟨ad251,e251,hx251_0,hx251_1,hx251_2,hx251_3⟩:=at_T49 HR0.out x3_1 p251 q251;have hw251_3:=hx251_3;have hw251_2:=hx251_2;have hw251_1:=hx251_1;have hw251_0:=hx251_0;obtain rfl : ad244 = ad251:=(by injection e251)
            replace hx251_0:=(ct HB.out hx251_0 :)
            replace hx251_1:=(ct HB.out hx251_1 :)
            replace hx251_2:=(ct HB.out hx251_2 :)
            replace hx251_3:=(ct HB.out hx251_3 :)
            replace p251:=eq_true p251;replace q251:=eq_true q251;refine start_ (n:=43) (S:=fun w' => w'.cell? (ad244.add ((x3_1).toNat * 4)) = some (.int .i64 ((rd_T49 l0 x3_1).f0)) ∧ w'.cell? ⟨(ad244.add ((x3_1).toNat * 4)).block,(ad244.add ((x3_1).toNat * 4)).off + 1,none⟩ = some (.int .i64 ((rd_T49 l0 x3_1).f1)) ∧ w'.cell? ⟨(ad244.add ((x3_1).toNat * 4)).block,(ad244.add ((x3_1).toNat * 4)).off + 2,none⟩ = some (.int .i64 ((rd_T49 l0 x3_1).f2)) ∧ w'.cell? ⟨(ad244.add ((x3_1).toNat * 4)).block,(ad244.add ((x3_1).toNat * 4)).off + 3,none⟩ = some (.bool ((rd_T49 l0 x3_1).f3)) ∧ w'.cell? (ad244.add ((x3_1).toNat * 4)) = some (.int .i64 ((rd_T49 l0 x3_1).f0)) ∧ w'.cell? ⟨(ad244.add ((x3_1).toNat * 4)).block,(ad244.add ((x3_1).toNat * 4)).off + 1,none⟩ = some (.int .i64 ((rd_T49 l0 x3_1).f1)) ∧ w'.cell? ⟨(ad244.add ((x3_1).toNat * 4)).block,(ad244.add ((x3_1).toNat * 4)).off + 2,none⟩ = some (.int .i64 ((rd_T49 l0 x3_1).f2)) ∧ w'.cell? ⟨(ad244.add ((x3_1).toNat * 4)).block,(ad244.add ((x3_1).toNat * 4)).off + 3,none⟩ = some (.bool ((rd_T49 l0 x3_1).f3)) ∧ w'.cell? (ad244.add ((x3_1).toNat * 4)) = some (.int .i64 ((rd_T49 l0 x3_1).f0)) ∧ w'.cell? ⟨(ad244.add ((x3_1).toNat * 4)).block,(ad244.add ((x3_1).toNat * 4)).off + 1,none⟩ = some (.int .i64 ((rd_T49 l0 x3_1).f1)) ∧ w'.cell? ⟨(ad244.add ((x3_1).toNat * 4)).block,(ad244.add ((x3_1).toNat * 4)).off + 2,none⟩ = some (.int .i64 ((rd_T49 l0 x3_1).f2)) ∧ w'.cell? ⟨(ad244.add ((x3_1).toNat * 4)).block,(ad244.add ((x3_1).toNat * 4)).off + 3,none⟩ = some (.bool ((rd_T49 l0 x3_1).f3)) ∧ w'.cell? (ad244.add (((ji11)).toNat * 4)) = some (.int .i64 ((rd_T49 l0 (ji11)).f0)) ∧ w'.cell? ⟨(ad244.add (((ji11)).toNat * 4)).block,(ad244.add (((ji11)).toNat * 4)).off + 1,none⟩ = some (.int .i64 ((rd_T49 l0 (ji11)).f1)) ∧ w'.cell? ⟨(ad244.add (((ji11)).toNat * 4)).block,(ad244.add (((ji11)).toNat * 4)).off + 2,none⟩ = some (.int .i64 ((rd_T49 l0 (ji11)).f2)) ∧ w'.cell? ⟨(ad244.add (((ji11)).toNat * 4)).block,(ad244.add (((ji11)).toNat * 4)).off + 3,none⟩ = some (.bool ((rd_T49 l0 (ji11)).f3)) ∧ w'.cell? (ad244.add ((x3_1).toNat * 4)) = some (.int .i64 ((rd_T49 l0 x3_1).f0)) ∧ w'.cell? ⟨(ad244.add ((x3_1).toNat * 4)).block,(ad244.add ((x3_1).toNat * 4)).off + 1,none⟩ = some (.int .i64 ((rd_T49 l0 x3_1).f1)) ∧ w'.cell? ⟨(ad244.add ((x3_1).toNat * 4)).block,(ad244.add ((x3_1).toNat * 4)).off + 2,none⟩ = some (.int .i64 ((rd_T49 l0 x3_1).f2)) ∧ w'.cell? ⟨(ad244.add ((x3_1).toNat * 4)).block,(ad244.add ((x3_1).toNat * 4)).off + 3,none⟩ = some (.bool ((rd_T49 l0 x3_1).f3))) (ds:=[]) m0_10 (by kernel_rfl) rfl rfl ⟨(ct HB.out hw244_0 :),(ct HB.out hw244_1 :),(ct HB.out hw244_2 :),(ct HB.out hw244_3 :),(ct HB.out hw246_0 :),(ct HB.out hw246_1 :),(ct HB.out hw246_2 :),(ct HB.out hw246_3 :),(ct HB.out hw248_0 :),(ct HB.out hw248_1 :),(ct HB.out hw248_2 :),(ct HB.out hw248_3 :),(ct HB.out hw250_0 :),(ct HB.out hw250_1 :),(ct HB.out hw250_2 :),(ct HB.out hw250_3 :),(ct HB.out hw251_0 :),(ct HB.out hw251_1 :),(ct HB.out hw251_2 :),(ct HB.out hw251_3 :)⟩ (fun hHeld => ?_);refine with_tabW spec_AreCrew.tab4 spec_AreCrew.bits4 (fun HT_ HW_ => ?_)
            generalize wr.drew = w16 at HB hx244_0 hx244_1 hx244_2 hx244_3 hx246_0 hx246_1 hx246_2 hx246_3 hx248_0 hx248_1 hx248_2 hx248_3 hx250_0 hx250_1 hx250_2 hx250_3 hx251_0 hx251_1 hx251_2 hx251_3 hHeld ⊢
            refine pV (i:=0) (N:=some 10) m1_10 rfl rfl qT ?_
            refine pV (i:=1) (N:=some 11) m2_10 rfl rfl qT ?_
            refine pV (i:=2) (N:=some 12) m3_10 rfl rfl qT ?_
            refine pV (i:=3) (N:=some 13) m4_10 rfl rfl qT ?_
            refine take_ (i:=4) (N:=some 14) (v:=?_) (a':=?_) m5_10 rfl rfl (take_ofW HT_.out HW_.out (by kernel_rfl)) (fun _ _ _ h => h) (Or.inl ⟨by rfl,?_⟩) hHeld ?_ ?_;rotate_left
            ·rintro w' ⟨s0,s1,s2,s3,s4,s5,s6,s7,s8,s9,s10,s11,s12,s13,s14,s15,s16,s17,s18,s19⟩
             go_simp;with_reducible rfl
            rotate_left
            ·simp only [Act.put,sA,s0,s1,i64_w,i32_w];rfl
            refine one_ (i:=5) (N:=some 15) m6_10 rfl rfl (one_of HT_.out (by kernel_rfl)) (by decide) (fun K hK => ?_);refine goes_ Try.func47 (by kernel_rfl) rfl #[.int .i64 ((rd_T49 l0 x3_1).f0),.int .i64 1,.int .i64 99] (by rfl) rfl rfl qq50 ?_;with_reducible refine (spec_l1In.calls ((rd_T49 l0 x3_1).f0) 1 99 true _ A4.out).mono ?_
            rintro e w' ⟨rfl,⟨nd,rfl⟩⟩
            refine ⟨_,rfl,?_⟩;refine hK.out _ _ ⟨(ct HB.out hw244_0 :),(ct HB.out hw244_1 :),(ct HB.out hw244_2 :),(ct HB.out hw244_3 :),(ct HB.out hw246_0 :),(ct HB.out hw246_1 :),(ct HB.out hw246_2 :),(ct HB.out hw246_3 :),(ct HB.out hw248_0 :),(ct HB.out hw248_1 :),(ct HB.out hw248_2 :),(ct HB.out hw248_3 :),(ct HB.out hw250_0 :),(ct HB.out hw250_1 :),(ct HB.out hw250_2 :),(ct HB.out hw250_3 :),(ct HB.out hw251_0 :),(ct HB.out hw251_1 :),(ct HB.out hw251_2 :),(ct HB.out hw251_3 :)⟩ (fun hHeld => ?_);clear hK K;refine norm_ (a':=?_) ?_ ?_;rotate_left
            ·show Act.put _ (some 15) _ = _
             simp only [Act.put,sA,s0,s1,i64_w,i32_w];rfl
            refine pV (i:=6) (N:=some 16) m7_10 rfl rfl qT ?_
            refine pV (i:=7) (N:=some 17) m8_10 rfl rfl qT ?_
            refine pV (i:=8) (N:=some 18) m9_10 rfl rfl qT ?_
            refine pV (i:=9) (N:=some 19) m10_10 rfl rfl qT ?_
            refine pV (i:=10) (N:=some 20) m11_10 rfl rfl qT ?_
            refine pV (i:=11) (N:=some 21) m12_10 rfl rfl qT ?_
            refine take_ (i:=12) (N:=some 22) (v:=?_) (a':=?_) m13_10 rfl rfl (take_ofW HT_.out HW_.out (by kernel_rfl)) (fun _ _ _ h => h) (Or.inl ⟨by rfl,?_⟩) hHeld ?_ ?_;rotate_left
            ·rintro w' ⟨s0,s1,s2,s3,s4,s5,s6,s7,s8,s9,s10,s11,s12,s13,s14,s15,s16,s17,s18,s19⟩
             go_simp;with_reducible rfl
            rotate_left
            ·simp only [Act.put,sA,s0,s1,i64_w,i32_w];rfl
            refine one_ (i:=13) (N:=some 23) m14_10 rfl rfl (one_of HT_.out (by kernel_rfl)) (by decide) (fun K hK => ?_);refine goes_ Try.func47 (by kernel_rfl) rfl #[.int .i64 ((rd_T49 l0 x3_1).f1),.int .i64 0,.int .i64 100] (by rfl) rfl rfl qq50 ?_;with_reducible refine (spec_l1In.calls ((rd_T49 l0 x3_1).f1) 0 100 true _ A6.out).mono ?_
            rintro e w' ⟨rfl,⟨nd,rfl⟩⟩
            refine ⟨_,rfl,?_⟩;refine hK.out _ _ ⟨(ct HB.out hw244_0 :),(ct HB.out hw244_1 :),(ct HB.out hw244_2 :),(ct HB.out hw244_3 :),(ct HB.out hw246_0 :),(ct HB.out hw246_1 :),(ct HB.out hw246_2 :),(ct HB.out hw246_3 :),(ct HB.out hw248_0 :),(ct HB.out hw248_1 :),(ct HB.out hw248_2 :),(ct HB.out hw248_3 :),(ct HB.out hw250_0 :),(ct HB.out hw250_1 :),(ct HB.out hw250_2 :),(ct HB.out hw250_3 :),(ct HB.out hw251_0 :),(ct HB.out hw251_1 :),(ct HB.out hw251_2 :),(ct HB.out hw251_3 :)⟩ (fun hHeld => ?_);clear hK K;refine norm_ (a':=?_) ?_ ?_;rotate_left
            ·show Act.put _ (some 23) _ = _
             simp only [Act.put,sA,s0,s1,i64_w,i32_w];rfl
            refine pV (i:=14) (N:=some 24) m15_10 rfl rfl qT ?_
            refine pV (i:=15) (N:=some 25) m16_10 rfl rfl qT ?_
            refine pV (i:=16) (N:=some 26) m17_10 rfl rfl qT ?_
            refine pV (i:=17) (N:=some 27) m18_10 rfl rfl qT ?_
            refine pV (i:=18) (N:=some 28) m19_10 rfl rfl qT ?_
            refine pV (i:=19) (N:=some 29) m20_10 rfl rfl qT ?_
            refine pV (i:=20) (N:=some 30) m21_10 rfl rfl qT ?_
            refine take_ (i:=21) (N:=some 31) (v:=?_) (a':=?_) m22_10 rfl rfl (take_ofW HT_.out HW_.out (by kernel_rfl)) (fun _ _ _ h => h) (Or.inl ⟨by rfl,?_⟩) hHeld ?_ ?_;rotate_left
            ·rintro w' ⟨s0,s1,s2,s3,s4,s5,s6,s7,s8,s9,s10,s11,s12,s13,s14,s15,s16,s17,s18,s19⟩
             go_simp;with_reducible rfl
            rotate_left
            ·simp only [Act.put,sA,s0,s1,i64_w,i32_w];rfl
            refine one_ (i:=22) (N:=some 32) m23_10 rfl rfl (one_of HT_.out (by kernel_rfl)) (by decide) (fun K hK => ?_);refine goes_ Try.func47 (by kernel_rfl) rfl #[.int .i64 ((rd_T49 l0 x3_1).f2),.int .i64 1,.int .i64 10] (by rfl) rfl rfl qq50 ?_;with_reducible refine (spec_l1In.calls ((rd_T49 l0 x3_1).f2) 1 10 true _ A8.out).mono ?_
            rintro e w' ⟨rfl,⟨nd,rfl⟩⟩
            refine ⟨_,rfl,?_⟩;refine hK.out _ _ ⟨(ct HB.out hw244_0 :),(ct HB.out hw244_1 :),(ct HB.out hw244_2 :),(ct HB.out hw244_3 :),(ct HB.out hw246_0 :),(ct HB.out hw246_1 :),(ct HB.out hw246_2 :),(ct HB.out hw246_3 :),(ct HB.out hw248_0 :),(ct HB.out hw248_1 :),(ct HB.out hw248_2 :),(ct HB.out hw248_3 :),(ct HB.out hw250_0 :),(ct HB.out hw250_1 :),(ct HB.out hw250_2 :),(ct HB.out hw250_3 :),(ct HB.out hw251_0 :),(ct HB.out hw251_1 :),(ct HB.out hw251_2 :),(ct HB.out hw251_3 :)⟩ (fun hHeld => ?_);clear hK K;refine norm_ (a':=?_) ?_ ?_;rotate_left
            ·show Act.put _ (some 32) _ = _
             simp only [Act.put,sA,s0,s1,i64_w,i32_w];rfl
            refine pV (i:=23) (N:=some 33) m24_10 rfl rfl qT ?_
            refine pV (i:=24) (N:=some 34) m25_10 rfl rfl qT ?_
            refine pV (i:=25) (N:=some 35) m26_10 rfl rfl qT ?_
            refine pV (i:=26) (N:=some 36) m27_10 rfl rfl qT ?_
            refine pV (i:=27) (N:=some 37) m28_10 rfl rfl qT ?_
            refine pV (i:=28) (N:=some 38) m29_10 rfl rfl qT ?_
            refine pV (i:=29) (N:=some 39) m30_10 rfl rfl qT ?_
            refine pV (i:=30) (N:=some 40) m31_10 rfl rfl qT ?_
            refine pV (i:=31) (N:=some 41) m32_10 rfl rfl qT ?_
            refine pV (i:=32) (N:=some 42) m33_10 rfl rfl qT ?_
            refine pV (i:=33) (N:=some 43) m34_10 rfl rfl qT ?_
            refine pV (i:=35) (N:=some 45) m35_10 rfl rfl qT ?_
            refine pV (i:=36) (N:=some 46) m36_10 rfl rfl qT ?_
            refine pV (i:=37) (N:=some 47) m37_10 rfl rfl qT ?_
            refine pV (i:=38) (N:=some 48) m38_10 rfl rfl qT ?_
            refine take_ (i:=34) (N:=some 44) (v:=?_) (a':=?_) m39_10 rfl rfl (take_ofW HT_.out HW_.out (by kernel_rfl)) (fun _ _ _ h => h) (Or.inl ⟨by rfl,?_⟩) hHeld ?_ ?_;rotate_left
            ·rintro w' ⟨s0,s1,s2,s3,s4,s5,s6,s7,s8,s9,s10,s11,s12,s13,s14,s15,s16,s17,s18,s19⟩
             go_simp;with_reducible rfl
            rotate_left
            ·simp only [Act.put,sA,s0,s1,i64_w,i32_w];rfl
            refine take_ (i:=39) (N:=some 49) (v:=?_) (a':=?_) m40_10 rfl rfl (take_ofW HT_.out HW_.out (by kernel_rfl)) (fun _ _ _ h => h) (Or.inl ⟨by rfl,?_⟩) hHeld ?_ ?_;rotate_left
            ·rintro w' ⟨s0,s1,s2,s3,s4,s5,s6,s7,s8,s9,s10,s11,s12,s13,s14,s15,s16,s17,s18,s19⟩
             go_simp;with_reducible rfl
            rotate_left
            ·simp only [Act.put,sA,s0,s1,i64_w,i32_w];rfl
            refine pV (i:=40) (N:=some 50) m41_10 rfl rfl qT ?_
            refine pV (i:=41) (N:=some 51) m42_10 rfl rfl qT ?_
            refine pV (i:=42) (N:=some 52) m43_10 rfl rfl qT ?_
            refine done_ (done_of HT_.out (by kernel_rfl)) ?_
            try go_wp2
            go_roundg k1
            case measure => have:=HK1.out;omega
            case rel => exact ⟨(wrap64 (x3_1 + 1)),qq95,H',⟨qq107⟩,⟨qq73⟩⟩
          ·rw [if_neg c13] at H;exact absurd H (by simp)
         ·rw [if_neg c12] at H;exact absurd H (by simp)
        ·rw [if_neg c10] at H;have c10b0 : decide (0 < x3_1) = false:=decide_eq_false c10;clear c10;have H':=am H;clear H
         try go_wp2
         replace HB:=am qq141;have p244 : 0 ≤ (x3_1 : Int):=odt qq94;have q244 : x3_1 < (l0.length : Int):=odt qq94;obtain ⟨ad244,e244,hx244_0,hx244_1,hx244_2,hx244_3⟩:=at_T49 HR0.out x3_1 p244 q244;have hw244_3:=hx244_3;have hw244_2:=hx244_2;have hw244_1:=hx244_1;have hw244_0:=hx244_0
         cases e244
         replace hx244_0:=(ct HB.out hx244_0 :)
         replace hx244_1:=(ct HB.out hx244_1 :)
         replace hx244_2:=(ct HB.out hx244_2 :)
         replace hx244_3:=(ct HB.out hx244_3 :)
         replace p244:=eq_true p244;replace q244:=eq_true q244;have p246 : 0 ≤ (x3_1 : Int):=odt qq94;have q246 : x3_1 < (l0.length : Int):=odt qq94;obtain ⟨ad246,e246,hx246_0,hx246_1,hx246_2,hx246_3⟩:=at_T49 HR0.out x3_1 p246 q246;have hw246_3:=hx246_3;have hw246_2:=hx246_2;have hw246_1:=hx246_1;have hw246_0:=hx246_0;obtain rfl : ad244 = ad246:=(by injection e246)
         replace hx246_0:=(ct HB.out hx246_0 :)
         replace hx246_1:=(ct HB.out hx246_1 :)
         replace hx246_2:=(ct HB.out hx246_2 :)
         replace hx246_3:=(ct HB.out hx246_3 :)
         replace p246:=eq_true p246;replace q246:=eq_true q246;have p248 : 0 ≤ (x3_1 : Int):=odt qq94;have q248 : x3_1 < (l0.length : Int):=odt qq94;obtain ⟨ad248,e248,hx248_0,hx248_1,hx248_2,hx248_3⟩:=at_T49 HR0.out x3_1 p248 q248;have hw248_3:=hx248_3;have hw248_2:=hx248_2;have hw248_1:=hx248_1;have hw248_0:=hx248_0;obtain rfl : ad244 = ad248:=(by injection e248)
         replace hx248_0:=(ct HB.out hx248_0 :)
         replace hx248_1:=(ct HB.out hx248_1 :)
         replace hx248_2:=(ct HB.out hx248_2 :)
         replace hx248_3:=(ct HB.out hx248_3 :)
         replace p248:=eq_true p248;replace q248:=eq_true q248;refine start_ (n:=43) (S:=fun w' => w'.cell? (ad244.add ((x3_1).toNat * 4)) = some (.int .i64 ((rd_T49 l0 x3_1).f0)) ∧ w'.cell? ⟨(ad244.add ((x3_1).toNat * 4)).block,(ad244.add ((x3_1).toNat * 4)).off + 1,none⟩ = some (.int .i64 ((rd_T49 l0 x3_1).f1)) ∧ w'.cell? ⟨(ad244.add ((x3_1).toNat * 4)).block,(ad244.add ((x3_1).toNat * 4)).off + 2,none⟩ = some (.int .i64 ((rd_T49 l0 x3_1).f2)) ∧ w'.cell? ⟨(ad244.add ((x3_1).toNat * 4)).block,(ad244.add ((x3_1).toNat * 4)).off + 3,none⟩ = some (.bool ((rd_T49 l0 x3_1).f3)) ∧ w'.cell? (ad244.add ((x3_1).toNat * 4)) = some (.int .i64 ((rd_T49 l0 x3_1).f0)) ∧ w'.cell? ⟨(ad244.add ((x3_1).toNat * 4)).block,(ad244.add ((x3_1).toNat * 4)).off + 1,none⟩ = some (.int .i64 ((rd_T49 l0 x3_1).f1)) ∧ w'.cell? ⟨(ad244.add ((x3_1).toNat * 4)).block,(ad244.add ((x3_1).toNat * 4)).off + 2,none⟩ = some (.int .i64 ((rd_T49 l0 x3_1).f2)) ∧ w'.cell? ⟨(ad244.add ((x3_1).toNat * 4)).block,(ad244.add ((x3_1).toNat * 4)).off + 3,none⟩ = some (.bool ((rd_T49 l0 x3_1).f3)) ∧ w'.cell? (ad244.add ((x3_1).toNat * 4)) = some (.int .i64 ((rd_T49 l0 x3_1).f0)) ∧ w'.cell? ⟨(ad244.add ((x3_1).toNat * 4)).block,(ad244.add ((x3_1).toNat * 4)).off + 1,none⟩ = some (.int .i64 ((rd_T49 l0 x3_1).f1)) ∧ w'.cell? ⟨(ad244.add ((x3_1).toNat * 4)).block,(ad244.add ((x3_1).toNat * 4)).off + 2,none⟩ = some (.int .i64 ((rd_T49 l0 x3_1).f2)) ∧ w'.cell? ⟨(ad244.add ((x3_1).toNat * 4)).block,(ad244.add ((x3_1).toNat * 4)).off + 3,none⟩ = some (.bool ((rd_T49 l0 x3_1).f3))) (ds:=[]) m0_10 (by kernel_rfl) rfl rfl ⟨(ct HB.out hw244_0 :),(ct HB.out hw244_1 :),(ct HB.out hw244_2 :),(ct HB.out hw244_3 :),(ct HB.out hw246_0 :),(ct HB.out hw246_1 :),(ct HB.out hw246_2 :),(ct HB.out hw246_3 :),(ct HB.out hw248_0 :),(ct HB.out hw248_1 :),(ct HB.out hw248_2 :),(ct HB.out hw248_3 :)⟩ (fun hHeld => ?_);refine with_tabW spec_AreCrew.tab4 spec_AreCrew.bits4 (fun HT_ HW_ => ?_)
         generalize wr.drew = w17 at HB hx244_0 hx244_1 hx244_2 hx244_3 hx246_0 hx246_1 hx246_2 hx246_3 hx248_0 hx248_1 hx248_2 hx248_3 hHeld ⊢
         refine pV (i:=0) (N:=some 10) m1_10 rfl rfl qT ?_
         refine pV (i:=1) (N:=some 11) m2_10 rfl rfl qT ?_
         refine pV (i:=2) (N:=some 12) m3_10 rfl rfl qT ?_
         refine pV (i:=3) (N:=some 13) m4_10 rfl rfl qT ?_
         refine take_ (i:=4) (N:=some 14) (v:=?_) (a':=?_) m5_10 rfl rfl (take_ofW HT_.out HW_.out (by kernel_rfl)) (fun _ _ _ h => h) (Or.inl ⟨by rfl,?_⟩) hHeld ?_ ?_;rotate_left
         ·rintro w' ⟨s0,s1,s2,s3,s4,s5,s6,s7,s8,s9,s10,s11⟩
          go_simp;with_reducible rfl
         rotate_left
         ·simp only [Act.put,sA,s0,s1,i64_w,i32_w];rfl
         refine one_ (i:=5) (N:=some 15) m6_10 rfl rfl (one_of HT_.out (by kernel_rfl)) (by decide) (fun K hK => ?_);refine goes_ Try.func47 (by kernel_rfl) rfl #[.int .i64 ((rd_T49 l0 x3_1).f0),.int .i64 1,.int .i64 99] (by rfl) rfl rfl qq50 ?_;with_reducible refine (spec_l1In.calls ((rd_T49 l0 x3_1).f0) 1 99 true _ A4.out).mono ?_
         rintro e w' ⟨rfl,⟨nd,rfl⟩⟩
         refine ⟨_,rfl,?_⟩;refine hK.out _ _ ⟨(ct HB.out hw244_0 :),(ct HB.out hw244_1 :),(ct HB.out hw244_2 :),(ct HB.out hw244_3 :),(ct HB.out hw246_0 :),(ct HB.out hw246_1 :),(ct HB.out hw246_2 :),(ct HB.out hw246_3 :),(ct HB.out hw248_0 :),(ct HB.out hw248_1 :),(ct HB.out hw248_2 :),(ct HB.out hw248_3 :)⟩ (fun hHeld => ?_);clear hK K;refine norm_ (a':=?_) ?_ ?_;rotate_left
         ·show Act.put _ (some 15) _ = _
          simp only [Act.put,sA,s0,s1,i64_w,i32_w];rfl
         refine pV (i:=6) (N:=some 16) m7_10 rfl rfl qT ?_
         refine pV (i:=7) (N:=some 17) m8_10 rfl rfl qT ?_
         refine pV (i:=8) (N:=some 18) m9_10 rfl rfl qT ?_
         refine pV (i:=9) (N:=some 19) m10_10 rfl rfl qT ?_
         refine pV (i:=10) (N:=some 20) m11_10 rfl rfl qT ?_
         refine pV (i:=11) (N:=some 21) m12_10 rfl rfl qT ?_
         refine take_ (i:=12) (N:=some 22) (v:=?_) (a':=?_) m13_10 rfl rfl (take_ofW HT_.out HW_.out (by kernel_rfl)) (fun _ _ _ h => h) (Or.inl ⟨by rfl,?_⟩) hHeld ?_ ?_;rotate_left
         ·rintro w' ⟨s0,s1,s2,s3,s4,s5,s6,s7,s8,s9,s10,s11⟩
          go_simp;with_reducible rfl
         rotate_left
         ·simp only [Act.put,sA,s0,s1,i64_w,i32_w];rfl
         refine one_ (i:=13) (N:=some 23) m14_10 rfl rfl (one_of HT_.out (by kernel_rfl)) (by decide) (fun K hK => ?_);refine goes_ Try.func47 (by kernel_rfl) rfl #[.int .i64 ((rd_T49 l0 x3_1).f1),.int .i64 0,.int .i64 100] (by rfl) rfl rfl qq50 ?_;with_reducible refine (spec_l1In.calls ((rd_T49 l0 x3_1).f1) 0 100 true _ A6.out).mono ?_
         rintro e w' ⟨rfl,⟨nd,rfl⟩⟩
         refine ⟨_,rfl,?_⟩;refine hK.out _ _ ⟨(ct HB.out hw244_0 :),(ct HB.out hw244_1 :),(ct HB.out hw244_2 :),(ct HB.out hw244_3 :),(ct HB.out hw246_0 :),(ct HB.out hw246_1 :),(ct HB.out hw246_2 :),(ct HB.out hw246_3 :),(ct HB.out hw248_0 :),(ct HB.out hw248_1 :),(ct HB.out hw248_2 :),(ct HB.out hw248_3 :)⟩ (fun hHeld => ?_);clear hK K;refine norm_ (a':=?_) ?_ ?_;rotate_left
         ·show Act.put _ (some 23) _ = _
          simp only [Act.put,sA,s0,s1,i64_w,i32_w];rfl
         refine pV (i:=14) (N:=some 24) m15_10 rfl rfl qT ?_
         refine pV (i:=15) (N:=some 25) m16_10 rfl rfl qT ?_
         refine pV (i:=16) (N:=some 26) m17_10 rfl rfl qT ?_
         refine pV (i:=17) (N:=some 27) m18_10 rfl rfl qT ?_
         refine pV (i:=18) (N:=some 28) m19_10 rfl rfl qT ?_
         refine pV (i:=19) (N:=some 29) m20_10 rfl rfl qT ?_
         refine pV (i:=20) (N:=some 30) m21_10 rfl rfl qT ?_
         refine take_ (i:=21) (N:=some 31) (v:=?_) (a':=?_) m22_10 rfl rfl (take_ofW HT_.out HW_.out (by kernel_rfl)) (fun _ _ _ h => h) (Or.inl ⟨by rfl,?_⟩) hHeld ?_ ?_;rotate_left
         ·rintro w' ⟨s0,s1,s2,s3,s4,s5,s6,s7,s8,s9,s10,s11⟩
          go_simp;with_reducible rfl
         rotate_left
         ·simp only [Act.put,sA,s0,s1,i64_w,i32_w];rfl
         refine one_ (i:=22) (N:=some 32) m23_10 rfl rfl (one_of HT_.out (by kernel_rfl)) (by decide) (fun K hK => ?_);refine goes_ Try.func47 (by kernel_rfl) rfl #[.int .i64 ((rd_T49 l0 x3_1).f2),.int .i64 1,.int .i64 10] (by rfl) rfl rfl qq50 ?_;with_reducible refine (spec_l1In.calls ((rd_T49 l0 x3_1).f2) 1 10 true _ A8.out).mono ?_
         rintro e w' ⟨rfl,⟨nd,rfl⟩⟩
         refine ⟨_,rfl,?_⟩;refine hK.out _ _ ⟨(ct HB.out hw244_0 :),(ct HB.out hw244_1 :),(ct HB.out hw244_2 :),(ct HB.out hw244_3 :),(ct HB.out hw246_0 :),(ct HB.out hw246_1 :),(ct HB.out hw246_2 :),(ct HB.out hw246_3 :),(ct HB.out hw248_0 :),(ct HB.out hw248_1 :),(ct HB.out hw248_2 :),(ct HB.out hw248_3 :)⟩ (fun hHeld => ?_);clear hK K;refine norm_ (a':=?_) ?_ ?_;rotate_left
         ·show Act.put _ (some 32) _ = _
          simp only [Act.put,sA,s0,s1,i64_w,i32_w];rfl
         refine pV (i:=23) (N:=some 33) m24_10 rfl rfl qT ?_
         refine pV (i:=24) (N:=some 34) m25_10 rfl rfl qT ?_
         refine pV (i:=25) (N:=some 35) m26_10 rfl rfl qT ?_
         refine pV (i:=26) (N:=some 36) m27_10 rfl rfl qT ?_
         refine pV (i:=27) (N:=some 37) m28_10 rfl rfl qT ?_
         refine pV (i:=28) (N:=some 38) m29_10 rfl rfl qT ?_
         refine pW (i:=29) (N:=some 39) m30_10 rfl rfl qT ?_
         refine pW (i:=30) (N:=some 40) m31_10 rfl rfl qT ?_
         refine pW (i:=31) (N:=some 41) m32_10 rfl rfl qT ?_
         refine pW (i:=32) (N:=some 42) m33_10 rfl rfl qT ?_
         refine pW (i:=33) (N:=some 43) m34_10 rfl rfl qT ?_
         refine pW (i:=34) (N:=some 44) m44_10 rfl rfl qT ?_
         refine pW (i:=35) (N:=some 45) m45_10 rfl rfl qT ?_
         refine pW (i:=36) (N:=some 46) m46_10 rfl rfl qT ?_
         refine pW (i:=37) (N:=some 47) m47_10 rfl rfl qT ?_
         refine pW (i:=38) (N:=some 48) m39_10 rfl rfl qT ?_
         refine pW (i:=39) (N:=some 49) m40_10 rfl rfl qT ?_
         refine pW (i:=40) (N:=some 50) m41_10 rfl rfl qT ?_
         refine pV (i:=41) (N:=some 51) m42_10 rfl rfl qT ?_
         refine pV (i:=42) (N:=some 52) m43_10 rfl rfl qT ?_
         refine done_ (done_of HT_.out (by kernel_rfl)) ?_
         try go_wp2
         go_roundg k1
         case measure => have:=HK1.out;omega
         case rel => exact ⟨(wrap64 (x3_1 + 1)),qq95,H',⟨qq107⟩,⟨qq73⟩⟩
       ·replace c9:=Bool.eq_false_iff.mpr c9;subst c9;have H1 : (some false) = some r:=by rw [if_neg (show ¬ (false = true) by decide)] at H;exact H
        clear H;have H:=H1;clear H1;obtain rfl:=Option.some.inj H
        try go_wp2
        replace HB:=am qq141;have p244 : 0 ≤ (x3_1 : Int):=odt qq94;have q244 : x3_1 < (l0.length : Int):=odt qq94;obtain ⟨ad244,e244,hx244_0,hx244_1,hx244_2,hx244_3⟩:=at_T49 HR0.out x3_1 p244 q244;have hw244_3:=hx244_3;have hw244_2:=hx244_2;have hw244_1:=hx244_1;have hw244_0:=hx244_0
        cases e244
        replace hx244_0:=(ct HB.out hx244_0 :)
        replace hx244_1:=(ct HB.out hx244_1 :)
        replace hx244_2:=(ct HB.out hx244_2 :)
        replace hx244_3:=(ct HB.out hx244_3 :)
        replace p244:=eq_true p244;replace q244:=eq_true q244;have p246 : 0 ≤ (x3_1 : Int):=odt qq94;have q246 : x3_1 < (l0.length : Int):=odt qq94;obtain ⟨ad246,e246,hx246_0,hx246_1,hx246_2,hx246_3⟩:=at_T49 HR0.out x3_1 p246 q246;have hw246_3:=hx246_3;have hw246_2:=hx246_2;have hw246_1:=hx246_1;have hw246_0:=hx246_0;obtain rfl : ad244 = ad246:=(by injection e246)
        replace hx246_0:=(ct HB.out hx246_0 :)
        replace hx246_1:=(ct HB.out hx246_1 :)
        replace hx246_2:=(ct HB.out hx246_2 :)
        replace hx246_3:=(ct HB.out hx246_3 :)
        replace p246:=eq_true p246;replace q246:=eq_true q246;have p248 : 0 ≤ (x3_1 : Int):=odt qq94;have q248 : x3_1 < (l0.length : Int):=odt qq94;obtain ⟨ad248,e248,hx248_0,hx248_1,hx248_2,hx248_3⟩:=at_T49 HR0.out x3_1 p248 q248;have hw248_3:=hx248_3;have hw248_2:=hx248_2;have hw248_1:=hx248_1;have hw248_0:=hx248_0;obtain rfl : ad244 = ad248:=(by injection e248)
        replace hx248_0:=(ct HB.out hx248_0 :)
        replace hx248_1:=(ct HB.out hx248_1 :)
        replace hx248_2:=(ct HB.out hx248_2 :)
        replace hx248_3:=(ct HB.out hx248_3 :)
        replace p248:=eq_true p248;replace q248:=eq_true q248;refine start_ (n:=43) (S:=fun w' => w'.cell? (ad244.add ((x3_1).toNat * 4)) = some (.int .i64 ((rd_T49 l0 x3_1).f0)) ∧ w'.cell? ⟨(ad244.add ((x3_1).toNat * 4)).block,(ad244.add ((x3_1).toNat * 4)).off + 1,none⟩ = some (.int .i64 ((rd_T49 l0 x3_1).f1)) ∧ w'.cell? ⟨(ad244.add ((x3_1).toNat * 4)).block,(ad244.add ((x3_1).toNat * 4)).off + 2,none⟩ = some (.int .i64 ((rd_T49 l0 x3_1).f2)) ∧ w'.cell? ⟨(ad244.add ((x3_1).toNat * 4)).block,(ad244.add ((x3_1).toNat * 4)).off + 3,none⟩ = some (.bool ((rd_T49 l0 x3_1).f3)) ∧ w'.cell? (ad244.add ((x3_1).toNat * 4)) = some (.int .i64 ((rd_T49 l0 x3_1).f0)) ∧ w'.cell? ⟨(ad244.add ((x3_1).toNat * 4)).block,(ad244.add ((x3_1).toNat * 4)).off + 1,none⟩ = some (.int .i64 ((rd_T49 l0 x3_1).f1)) ∧ w'.cell? ⟨(ad244.add ((x3_1).toNat * 4)).block,(ad244.add ((x3_1).toNat * 4)).off + 2,none⟩ = some (.int .i64 ((rd_T49 l0 x3_1).f2)) ∧ w'.cell? ⟨(ad244.add ((x3_1).toNat * 4)).block,(ad244.add ((x3_1).toNat * 4)).off + 3,none⟩ = some (.bool ((rd_T49 l0 x3_1).f3)) ∧ w'.cell? (ad244.add ((x3_1).toNat * 4)) = some (.int .i64 ((rd_T49 l0 x3_1).f0)) ∧ w'.cell? ⟨(ad244.add ((x3_1).toNat * 4)).block,(ad244.add ((x3_1).toNat * 4)).off + 1,none⟩ = some (.int .i64 ((rd_T49 l0 x3_1).f1)) ∧ w'.cell? ⟨(ad244.add ((x3_1).toNat * 4)).block,(ad244.add ((x3_1).toNat * 4)).off + 2,none⟩ = some (.int .i64 ((rd_T49 l0 x3_1).f2)) ∧ w'.cell? ⟨(ad244.add ((x3_1).toNat * 4)).block,(ad244.add ((x3_1).toNat * 4)).off + 3,none⟩ = some (.bool ((rd_T49 l0 x3_1).f3))) (ds:=[]) m0_10 (by kernel_rfl) rfl rfl ⟨(ct HB.out hw244_0 :),(ct HB.out hw244_1 :),(ct HB.out hw244_2 :),(ct HB.out hw244_3 :),(ct HB.out hw246_0 :),(ct HB.out hw246_1 :),(ct HB.out hw246_2 :),(ct HB.out hw246_3 :),(ct HB.out hw248_0 :),(ct HB.out hw248_1 :),(ct HB.out hw248_2 :),(ct HB.out hw248_3 :)⟩ (fun hHeld => ?_);refine with_tabW spec_AreCrew.tab4 spec_AreCrew.bits4 (fun HT_ HW_ => ?_)
        generalize wr.drew = w18 at HB hx244_0 hx244_1 hx244_2 hx244_3 hx246_0 hx246_1 hx246_2 hx246_3 hx248_0 hx248_1 hx248_2 hx248_3 hHeld ⊢
        refine pV (i:=0) (N:=some 10) m1_10 rfl rfl qT ?_
        refine pV (i:=1) (N:=some 11) m2_10 rfl rfl qT ?_
        refine pV (i:=2) (N:=some 12) m3_10 rfl rfl qT ?_
        refine pV (i:=3) (N:=some 13) m4_10 rfl rfl qT ?_
        refine take_ (i:=4) (N:=some 14) (v:=?_) (a':=?_) m5_10 rfl rfl (take_ofW HT_.out HW_.out (by kernel_rfl)) (fun _ _ _ h => h) (Or.inl ⟨by rfl,?_⟩) hHeld ?_ ?_;rotate_left
        ·rintro w' ⟨s0,s1,s2,s3,s4,s5,s6,s7,s8,s9,s10,s11⟩
         go_simp;with_reducible rfl
        rotate_left
        ·simp only [Act.put,sA,s0,s1,i64_w,i32_w];rfl
        refine one_ (i:=5) (N:=some 15) m6_10 rfl rfl (one_of HT_.out (by kernel_rfl)) (by decide) (fun K hK => ?_);refine goes_ Try.func47 (by kernel_rfl) rfl #[.int .i64 ((rd_T49 l0 x3_1).f0),.int .i64 1,.int .i64 99] (by rfl) rfl rfl qq50 ?_;with_reducible refine (spec_l1In.calls ((rd_T49 l0 x3_1).f0) 1 99 true _ A4.out).mono ?_
        rintro e w' ⟨rfl,⟨nd,rfl⟩⟩
        refine ⟨_,rfl,?_⟩;refine hK.out _ _ ⟨(ct HB.out hw244_0 :),(ct HB.out hw244_1 :),(ct HB.out hw244_2 :),(ct HB.out hw244_3 :),(ct HB.out hw246_0 :),(ct HB.out hw246_1 :),(ct HB.out hw246_2 :),(ct HB.out hw246_3 :),(ct HB.out hw248_0 :),(ct HB.out hw248_1 :),(ct HB.out hw248_2 :),(ct HB.out hw248_3 :)⟩ (fun hHeld => ?_);clear hK K;refine norm_ (a':=?_) ?_ ?_;rotate_left
        ·show Act.put _ (some 15) _ = _
         simp only [Act.put,sA,s0,s1,i64_w,i32_w];rfl
        refine pV (i:=6) (N:=some 16) m7_10 rfl rfl qT ?_
        refine pV (i:=7) (N:=some 17) m8_10 rfl rfl qT ?_
        refine pV (i:=8) (N:=some 18) m9_10 rfl rfl qT ?_
        refine pV (i:=9) (N:=some 19) m10_10 rfl rfl qT ?_
        refine pV (i:=10) (N:=some 20) m11_10 rfl rfl qT ?_
        refine pV (i:=11) (N:=some 21) m12_10 rfl rfl qT ?_
        refine take_ (i:=12) (N:=some 22) (v:=?_) (a':=?_) m13_10 rfl rfl (take_ofW HT_.out HW_.out (by kernel_rfl)) (fun _ _ _ h => h) (Or.inl ⟨by rfl,?_⟩) hHeld ?_ ?_;rotate_left
        ·rintro w' ⟨s0,s1,s2,s3,s4,s5,s6,s7,s8,s9,s10,s11⟩
         go_simp;with_reducible rfl
        rotate_left
        ·simp only [Act.put,sA,s0,s1,i64_w,i32_w];rfl
        refine one_ (i:=13) (N:=some 23) m14_10 rfl rfl (one_of HT_.out (by kernel_rfl)) (by decide) (fun K hK => ?_);refine goes_ Try.func47 (by kernel_rfl) rfl #[.int .i64 ((rd_T49 l0 x3_1).f1),.int .i64 0,.int .i64 100] (by rfl) rfl rfl qq50 ?_;with_reducible refine (spec_l1In.calls ((rd_T49 l0 x3_1).f1) 0 100 true _ A6.out).mono ?_
        rintro e w' ⟨rfl,⟨nd,rfl⟩⟩
        refine ⟨_,rfl,?_⟩;refine hK.out _ _ ⟨(ct HB.out hw244_0 :),(ct HB.out hw244_1 :),(ct HB.out hw244_2 :),(ct HB.out hw244_3 :),(ct HB.out hw246_0 :),(ct HB.out hw246_1 :),(ct HB.out hw246_2 :),(ct HB.out hw246_3 :),(ct HB.out hw248_0 :),(ct HB.out hw248_1 :),(ct HB.out hw248_2 :),(ct HB.out hw248_3 :)⟩ (fun hHeld => ?_);clear hK K;refine norm_ (a':=?_) ?_ ?_;rotate_left
        ·show Act.put _ (some 23) _ = _
         simp only [Act.put,sA,s0,s1,i64_w,i32_w];rfl
        refine pV (i:=14) (N:=some 24) m15_10 rfl rfl qT ?_
        refine pV (i:=15) (N:=some 25) m16_10 rfl rfl qT ?_
        refine pV (i:=16) (N:=some 26) m17_10 rfl rfl qT ?_
        refine pV (i:=17) (N:=some 27) m18_10 rfl rfl qT ?_
        refine pV (i:=18) (N:=some 28) m19_10 rfl rfl qT ?_
        refine pV (i:=19) (N:=some 29) m20_10 rfl rfl qT ?_
        refine pV (i:=20) (N:=some 30) m21_10 rfl rfl qT ?_
        refine take_ (i:=21) (N:=some 31) (v:=?_) (a':=?_) m22_10 rfl rfl (take_ofW HT_.out HW_.out (by kernel_rfl)) (fun _ _ _ h => h) (Or.inl ⟨by rfl,?_⟩) hHeld ?_ ?_;rotate_left
        ·rintro w' ⟨s0,s1,s2,s3,s4,s5,s6,s7,s8,s9,s10,s11⟩
         go_simp;with_reducible rfl
        rotate_left
        ·simp only [Act.put,sA,s0,s1,i64_w,i32_w];rfl
        refine one_ (i:=22) (N:=some 32) m23_10 rfl rfl (one_of HT_.out (by kernel_rfl)) (by decide) (fun K hK => ?_);refine goes_ Try.func47 (by kernel_rfl) rfl #[.int .i64 ((rd_T49 l0 x3_1).f2),.int .i64 1,.int .i64 10] (by rfl) rfl rfl qq50 ?_;with_reducible refine (spec_l1In.calls ((rd_T49 l0 x3_1).f2) 1 10 false _ A8.out).mono ?_
        rintro e w' ⟨rfl,⟨nd,rfl⟩⟩
        refine ⟨_,rfl,?_⟩;refine hK.out _ _ ⟨(ct HB.out hw244_0 :),(ct HB.out hw244_1 :),(ct HB.out hw244_2 :),(ct HB.out hw244_3 :),(ct HB.out hw246_0 :),(ct HB.out hw246_1 :),(ct HB.out hw246_2 :),(ct HB.out hw246_3 :),(ct HB.out hw248_0 :),(ct HB.out hw248_1 :),(ct HB.out hw248_2 :),(ct HB.out hw248_3 :)⟩ (fun hHeld => ?_);clear hK K;refine norm_ (a':=?_) ?_ ?_;rotate_left
        ·show Act.put _ (some 32) _ = _
         simp only [Act.put,sA,s0,s1,i64_w,i32_w];rfl
        refine pV (i:=23) (N:=some 33) m24_10 rfl rfl qT ?_
        refine pV (i:=24) (N:=some 34) m25_10 rfl rfl qT ?_
        refine pV (i:=25) (N:=some 35) m26_10 rfl rfl qT ?_
        refine pW (i:=26) (N:=some 36) m27_10 rfl rfl qT ?_
        refine pW (i:=27) (N:=some 37) m28_10 rfl rfl qT ?_
        refine pW (i:=28) (N:=some 38) m29_10 rfl rfl qT ?_
        refine pW (i:=29) (N:=some 39) m30_10 rfl rfl qT ?_
        refine pW (i:=30) (N:=some 40) m31_10 rfl rfl qT ?_
        refine pW (i:=31) (N:=some 41) m32_10 rfl rfl qT ?_
        refine pW (i:=32) (N:=some 42) m33_10 rfl rfl qT ?_
        refine pW (i:=33) (N:=some 43) m34_10 rfl rfl qT ?_
        refine pW (i:=34) (N:=some 44) m44_10 rfl rfl qT ?_
        refine pW (i:=35) (N:=some 45) m45_10 rfl rfl qT ?_
        refine pW (i:=36) (N:=some 46) m46_10 rfl rfl qT ?_
        refine pW (i:=37) (N:=some 47) m47_10 rfl rfl qT ?_
        refine pW (i:=38) (N:=some 48) m39_10 rfl rfl qT ?_
        refine pW (i:=39) (N:=some 49) m40_10 rfl rfl qT ?_
        refine pW (i:=40) (N:=some 50) m41_10 rfl rfl qT ?_
        refine pW (i:=41) (N:=some 51) m42_10 rfl rfl qT ?_
        refine pV (i:=42) (N:=some 52) m43_10 rfl rfl qT ?_
        refine done_ (done_of HT_.out (by kernel_rfl)) ?_
        try go_wp2
        go_ret
        exact ⟨qq81,qq73⟩
      ·replace c7:=Bool.eq_false_iff.mpr c7;subst c7;have H1 : (some false) = some r:=by rw [if_neg (show ¬ (false = true) by decide)] at H;exact H
       clear H;have H:=H1;clear H1;obtain rfl:=Option.some.inj H
       try go_wp2
       replace HB:=am qq141;have p244 : 0 ≤ (x3_1 : Int):=odt qq94;have q244 : x3_1 < (l0.length : Int):=odt qq94;obtain ⟨ad244,e244,hx244_0,hx244_1,hx244_2,hx244_3⟩:=at_T49 HR0.out x3_1 p244 q244;have hw244_3:=hx244_3;have hw244_2:=hx244_2;have hw244_1:=hx244_1;have hw244_0:=hx244_0
       cases e244
       replace hx244_0:=(ct HB.out hx244_0 :)
       replace hx244_1:=(ct HB.out hx244_1 :)
       replace hx244_2:=(ct HB.out hx244_2 :)
       replace hx244_3:=(ct HB.out hx244_3 :)
       replace p244:=eq_true p244;replace q244:=eq_true q244;have p246 : 0 ≤ (x3_1 : Int):=odt qq94;have q246 : x3_1 < (l0.length : Int):=odt qq94;obtain ⟨ad246,e246,hx246_0,hx246_1,hx246_2,hx246_3⟩:=at_T49 HR0.out x3_1 p246 q246;have hw246_3:=hx246_3;have hw246_2:=hx246_2;have hw246_1:=hx246_1;have hw246_0:=hx246_0;obtain rfl : ad244 = ad246:=(by injection e246)
       replace hx246_0:=(ct HB.out hx246_0 :)
       replace hx246_1:=(ct HB.out hx246_1 :)
       replace hx246_2:=(ct HB.out hx246_2 :)
       replace hx246_3:=(ct HB.out hx246_3 :)
       replace p246:=eq_true p246;replace q246:=eq_true q246;refine start_ (n:=43) (S:=fun w' => w'.cell? (ad244.add ((x3_1).toNat * 4)) = some (.int .i64 ((rd_T49 l0 x3_1).f0)) ∧ w'.cell? ⟨(ad244.add ((x3_1).toNat * 4)).block,(ad244.add ((x3_1).toNat * 4)).off + 1,none⟩ = some (.int .i64 ((rd_T49 l0 x3_1).f1)) ∧ w'.cell? ⟨(ad244.add ((x3_1).toNat * 4)).block,(ad244.add ((x3_1).toNat * 4)).off + 2,none⟩ = some (.int .i64 ((rd_T49 l0 x3_1).f2)) ∧ w'.cell? ⟨(ad244.add ((x3_1).toNat * 4)).block,(ad244.add ((x3_1).toNat * 4)).off + 3,none⟩ = some (.bool ((rd_T49 l0 x3_1).f3)) ∧ w'.cell? (ad244.add ((x3_1).toNat * 4)) = some (.int .i64 ((rd_T49 l0 x3_1).f0)) ∧ w'.cell? ⟨(ad244.add ((x3_1).toNat * 4)).block,(ad244.add ((x3_1).toNat * 4)).off + 1,none⟩ = some (.int .i64 ((rd_T49 l0 x3_1).f1)) ∧ w'.cell? ⟨(ad244.add ((x3_1).toNat * 4)).block,(ad244.add ((x3_1).toNat * 4)).off + 2,none⟩ = some (.int .i64 ((rd_T49 l0 x3_1).f2)) ∧ w'.cell? ⟨(ad244.add ((x3_1).toNat * 4)).block,(ad244.add ((x3_1).toNat * 4)).off + 3,none⟩ = some (.bool ((rd_T49 l0 x3_1).f3))) (ds:=[]) m0_10 (by kernel_rfl) rfl rfl ⟨(ct HB.out hw244_0 :),(ct HB.out hw244_1 :),(ct HB.out hw244_2 :),(ct HB.out hw244_3 :),(ct HB.out hw246_0 :),(ct HB.out hw246_1 :),(ct HB.out hw246_2 :),(ct HB.out hw246_3 :)⟩ (fun hHeld => ?_);refine with_tabW spec_AreCrew.tab4 spec_AreCrew.bits4 (fun HT_ HW_ => ?_)
       generalize wr.drew = w19 at HB hx244_0 hx244_1 hx244_2 hx244_3 hx246_0 hx246_1 hx246_2 hx246_3 hHeld ⊢
       refine pV (i:=0) (N:=some 10) m1_10 rfl rfl qT ?_
       refine pV (i:=1) (N:=some 11) m2_10 rfl rfl qT ?_
       refine pV (i:=2) (N:=some 12) m3_10 rfl rfl qT ?_
       refine pV (i:=3) (N:=some 13) m4_10 rfl rfl qT ?_
       refine tV8 (i:=4) (N:=some 14) m5_10 rfl rfl (take_ofW HT_.out HW_.out (by kernel_rfl)) hHeld ?_
       refine one_ (i:=5) (N:=some 15) m6_10 rfl rfl (one_of HT_.out (by kernel_rfl)) (by decide) (fun K hK => ?_);refine goes_ Try.func47 (by kernel_rfl) rfl #[.int .i64 ((rd_T49 l0 x3_1).f0),.int .i64 1,.int .i64 99] (by rfl) rfl rfl qq50 ?_;with_reducible refine (spec_l1In.calls ((rd_T49 l0 x3_1).f0) 1 99 true _ A4.out).mono ?_
       rintro e w' ⟨rfl,⟨nd,rfl⟩⟩
       refine ⟨_,rfl,?_⟩;refine hK.out _ _ ⟨(ct HB.out hw244_0 :),(ct HB.out hw244_1 :),(ct HB.out hw244_2 :),(ct HB.out hw244_3 :),(ct HB.out hw246_0 :),(ct HB.out hw246_1 :),(ct HB.out hw246_2 :),(ct HB.out hw246_3 :)⟩ (fun hHeld => ?_);clear hK K;refine norm_ (a':=?_) ?_ ?_;rotate_left
       ·show Act.put _ (some 15) _ = _
        simp only [Act.put,sA,s0,s1,i64_w,i32_w];rfl
       refine pV (i:=6) (N:=some 16) m7_10 rfl rfl qT ?_
       refine pV (i:=7) (N:=some 17) m8_10 rfl rfl qT ?_
       refine pV (i:=8) (N:=some 18) m9_10 rfl rfl qT ?_
       refine pV (i:=9) (N:=some 19) m10_10 rfl rfl qT ?_
       refine pV (i:=10) (N:=some 20) m11_10 rfl rfl qT ?_
       refine pV (i:=11) (N:=some 21) m12_10 rfl rfl qT ?_
       refine tV8 (i:=12) (N:=some 22) m13_10 rfl rfl (take_ofW HT_.out HW_.out (by kernel_rfl)) hHeld ?_
       refine one_ (i:=13) (N:=some 23) m14_10 rfl rfl (one_of HT_.out (by kernel_rfl)) (by decide) (fun K hK => ?_);refine goes_ Try.func47 (by kernel_rfl) rfl #[.int .i64 ((rd_T49 l0 x3_1).f1),.int .i64 0,.int .i64 100] (by rfl) rfl rfl qq50 ?_;with_reducible refine (spec_l1In.calls ((rd_T49 l0 x3_1).f1) 0 100 false _ A6.out).mono ?_
       rintro e w' ⟨rfl,⟨nd,rfl⟩⟩
       refine ⟨_,rfl,?_⟩;refine hK.out _ _ ⟨(ct HB.out hw244_0 :),(ct HB.out hw244_1 :),(ct HB.out hw244_2 :),(ct HB.out hw244_3 :),(ct HB.out hw246_0 :),(ct HB.out hw246_1 :),(ct HB.out hw246_2 :),(ct HB.out hw246_3 :)⟩ (fun hHeld => ?_);clear hK K;refine norm_ (a':=?_) ?_ ?_;rotate_left
       ·show Act.put _ (some 23) _ = _
        simp only [Act.put,sA,s0,s1,i64_w,i32_w];rfl
       refine pV (i:=14) (N:=some 24) m15_10 rfl rfl qT ?_
       refine pV (i:=15) (N:=some 25) m16_10 rfl rfl qT ?_
       refine pV (i:=16) (N:=some 26) m17_10 rfl rfl qT ?_
       refine pW (i:=17) (N:=some 27) m18_10 rfl rfl qT ?_
       refine pW (i:=18) (N:=some 28) m19_10 rfl rfl qT ?_
       refine pW (i:=19) (N:=some 29) m20_10 rfl rfl qT ?_
       refine pW (i:=20) (N:=some 30) m21_10 rfl rfl qT ?_
       refine pW (i:=21) (N:=some 31) m22_10 rfl rfl qT ?_
       refine pW (i:=22) (N:=some 32) m23_10 rfl rfl qT ?_
       refine pW (i:=23) (N:=some 33) m24_10 rfl rfl qT ?_
       refine pV (i:=24) (N:=some 34) m25_10 rfl rfl qT ?_
       refine pV (i:=25) (N:=some 35) m26_10 rfl rfl qT ?_
       refine pW (i:=26) (N:=some 36) m27_10 rfl rfl qT ?_
       refine pW (i:=27) (N:=some 37) m28_10 rfl rfl qT ?_
       refine pW (i:=28) (N:=some 38) m29_10 rfl rfl qT ?_
       refine pW (i:=29) (N:=some 39) m30_10 rfl rfl qT ?_
       refine pW (i:=30) (N:=some 40) m31_10 rfl rfl qT ?_
       refine pW (i:=31) (N:=some 41) m32_10 rfl rfl qT ?_
       refine pW (i:=32) (N:=some 42) m33_10 rfl rfl qT ?_
       refine pW (i:=33) (N:=some 43) m34_10 rfl rfl qT ?_
       refine pW (i:=34) (N:=some 44) m44_10 rfl rfl qT ?_
       refine pW (i:=35) (N:=some 45) m45_10 rfl rfl qT ?_
       refine pW (i:=36) (N:=some 46) m46_10 rfl rfl qT ?_
       refine pW (i:=37) (N:=some 47) m47_10 rfl rfl qT ?_
       refine pW (i:=38) (N:=some 48) m39_10 rfl rfl qT ?_
       refine pW (i:=39) (N:=some 49) m40_10 rfl rfl qT ?_
       refine pW (i:=40) (N:=some 50) m41_10 rfl rfl qT ?_
       refine pW (i:=41) (N:=some 51) m42_10 rfl rfl qT ?_
       refine pV (i:=42) (N:=some 52) m43_10 rfl rfl qT ?_
       refine done_ (done_of HT_.out (by kernel_rfl)) ?_
       try go_wp2
       go_ret
       exact ⟨qq81,qq73⟩
     ·replace c5:=Bool.eq_false_iff.mpr c5;subst c5;have H1 : (some false) = some r:=by rw [if_neg (show ¬ (false = true) by decide)] at H;exact H
      clear H;have H:=H1;clear H1;obtain rfl:=Option.some.inj H
      try go_wp2
      replace HB:=am qq141;have p244 : 0 ≤ (x3_1 : Int):=odt qq94;have q244 : x3_1 < (l0.length : Int):=odt qq94;obtain ⟨ad244,e244,hx244_0,hx244_1,hx244_2,hx244_3⟩:=at_T49 HR0.out x3_1 p244 q244;have hw244_3:=hx244_3;have hw244_2:=hx244_2;have hw244_1:=hx244_1;have hw244_0:=hx244_0
      cases e244
      replace hx244_0:=(ct HB.out hx244_0 :)
      replace hx244_1:=(ct HB.out hx244_1 :)
      replace hx244_2:=(ct HB.out hx244_2 :)
      replace hx244_3:=(ct HB.out hx244_3 :)
      replace p244:=eq_true p244;replace q244:=eq_true q244;refine start_ (n:=43) (S:=fun w' => w'.cell? (ad244.add ((x3_1).toNat * 4)) = some (.int .i64 ((rd_T49 l0 x3_1).f0)) ∧ w'.cell? ⟨(ad244.add ((x3_1).toNat * 4)).block,(ad244.add ((x3_1).toNat * 4)).off + 1,none⟩ = some (.int .i64 ((rd_T49 l0 x3_1).f1)) ∧ w'.cell? ⟨(ad244.add ((x3_1).toNat * 4)).block,(ad244.add ((x3_1).toNat * 4)).off + 2,none⟩ = some (.int .i64 ((rd_T49 l0 x3_1).f2)) ∧ w'.cell? ⟨(ad244.add ((x3_1).toNat * 4)).block,(ad244.add ((x3_1).toNat * 4)).off + 3,none⟩ = some (.bool ((rd_T49 l0 x3_1).f3))) (ds:=[]) m0_10 (by kernel_rfl) rfl rfl ⟨(ct HB.out hw244_0 :),(ct HB.out hw244_1 :),(ct HB.out hw244_2 :),(ct HB.out hw244_3 :)⟩ (fun hHeld => ?_);refine with_tabW spec_AreCrew.tab4 spec_AreCrew.bits4 (fun HT_ HW_ => ?_)
      generalize wr.drew = w20 at HB hx244_0 hx244_1 hx244_2 hx244_3 hHeld ⊢
      refine pV (i:=0) (N:=some 10) m1_10 rfl rfl qT ?_
      refine pV (i:=1) (N:=some 11) m2_10 rfl rfl qT ?_
      refine pV (i:=2) (N:=some 12) m3_10 rfl rfl qT ?_
      refine pV (i:=3) (N:=some 13) m4_10 rfl rfl qT ?_
      refine tV4 (i:=4) (N:=some 14) m5_10 rfl rfl (take_ofW HT_.out HW_.out (by kernel_rfl)) hHeld ?_
      refine one_ (i:=5) (N:=some 15) m6_10 rfl rfl (one_of HT_.out (by kernel_rfl)) (by decide) (fun K hK => ?_);refine goes_ Try.func47 (by kernel_rfl) rfl #[.int .i64 ((rd_T49 l0 x3_1).f0),.int .i64 1,.int .i64 99] (by rfl) rfl rfl qq50 ?_;with_reducible refine (spec_l1In.calls ((rd_T49 l0 x3_1).f0) 1 99 false _ A4.out).mono ?_
      rintro e w' ⟨rfl,⟨nd,rfl⟩⟩
      refine ⟨_,rfl,?_⟩;refine hK.out _ _ ⟨(ct HB.out hw244_0 :),(ct HB.out hw244_1 :),(ct HB.out hw244_2 :),(ct HB.out hw244_3 :)⟩ (fun hHeld => ?_);clear hK K;refine norm_ (a':=?_) ?_ ?_;rotate_left
      ·show Act.put _ (some 15) _ = _
       simp only [Act.put,sA,s0,s1,i64_w,i32_w];rfl
      refine pV (i:=6) (N:=some 16) m7_10 rfl rfl qT ?_
      refine pV (i:=7) (N:=some 17) m8_10 rfl rfl qT ?_
      refine pW (i:=8) (N:=some 18) m9_10 rfl rfl qT ?_
      refine pW (i:=9) (N:=some 19) m10_10 rfl rfl qT ?_
      refine pW (i:=10) (N:=some 20) m11_10 rfl rfl qT ?_
      refine pW (i:=11) (N:=some 21) m12_10 rfl rfl qT ?_
      refine pW (i:=12) (N:=some 22) m13_10 rfl rfl qT ?_
      refine pW (i:=13) (N:=some 23) m14_10 rfl rfl qT ?_
      refine pW (i:=14) (N:=some 24) m15_10 rfl rfl qT ?_
      refine pV (i:=15) (N:=some 25) m16_10 rfl rfl qT ?_
      refine pV (i:=16) (N:=some 26) m17_10 rfl rfl qT ?_
      refine pW (i:=17) (N:=some 27) m18_10 rfl rfl qT ?_
      refine pW (i:=18) (N:=some 28) m19_10 rfl rfl qT ?_
      refine pW (i:=19) (N:=some 29) m20_10 rfl rfl qT ?_
      refine pW (i:=20) (N:=some 30) m21_10 rfl rfl qT ?_
      refine pW (i:=21) (N:=some 31) m22_10 rfl rfl qT ?_
      refine pW (i:=22) (N:=some 32) m23_10 rfl rfl qT ?_
      refine pW (i:=23) (N:=some 33) m24_10 rfl rfl qT ?_
      refine pV (i:=24) (N:=some 34) m25_10 rfl rfl qT ?_
      refine pV (i:=25) (N:=some 35) m26_10 rfl rfl qT ?_
      refine pW (i:=26) (N:=some 36) m27_10 rfl rfl qT ?_
      refine pW (i:=27) (N:=some 37) m28_10 rfl rfl qT ?_
      refine pW (i:=28) (N:=some 38) m29_10 rfl rfl qT ?_
      refine pW (i:=29) (N:=some 39) m30_10 rfl rfl qT ?_
      refine pW (i:=30) (N:=some 40) m31_10 rfl rfl qT ?_
      refine pW (i:=31) (N:=some 41) m32_10 rfl rfl qT ?_
      refine pW (i:=32) (N:=some 42) m33_10 rfl rfl qT ?_
      refine pW (i:=33) (N:=some 43) m34_10 rfl rfl qT ?_
      refine pW (i:=34) (N:=some 44) m44_10 rfl rfl qT ?_
      refine pW (i:=35) (N:=some 45) m45_10 rfl rfl qT ?_
      refine pW (i:=36) (N:=some 46) m46_10 rfl rfl qT ?_
      refine pW (i:=37) (N:=some 47) m47_10 rfl rfl qT ?_
      refine pW (i:=38) (N:=some 48) m39_10 rfl rfl qT ?_
      refine pW (i:=39) (N:=some 49) m40_10 rfl rfl qT ?_
      refine pW (i:=40) (N:=some 50) m41_10 rfl rfl qT ?_
      refine pW (i:=41) (N:=some 51) m42_10 rfl rfl qT ?_
      refine pV (i:=42) (N:=some 52) m43_10 rfl rfl qT ?_
      refine done_ (done_of HT_.out (by kernel_rfl)) ?_
      try go_wp2
      go_ret
      exact ⟨qq81,qq73⟩
    ·rw [if_neg c3] at H;exact absurd H (by simp)
   ·rw [if_neg c2] at H;have c2b0 : decide (x3_1 < (l0.length : Int)) = false:=decide_eq_false c2;clear c2;replace H:=bS.mp H;obtain ⟨t243,A210,H⟩:=H;replace H : (some t243) = some r:=H;have A21:=am A210;clear A210;obtain rfl:=Option.some.inj H;go_wp2_with (first | ((with_reducible refine gate_callee (f:=47) rfl ?_);refine goesL_ (some 55) rfl rfl Try.func47 (by kernel_rfl) rfl #[.int .i64 (l0.length : Int),.int .i64 1,.int .i64 8] rfl qq50 ?_;(with_reducible refine (spec_l1In.calls (l0.length : Int) 1 8 t243 _ A21.out).mono ?_);rintro e w' ⟨rfl,⟨nd,rfl⟩⟩;refine ⟨_,rfl,?_⟩))
    go_ret
    exact ⟨qq81,qq73⟩

end Go.Proofs.Ytnghncedinngoaa.PFnTents
