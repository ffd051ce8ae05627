/- Contracts of functions that the law FnExactPutUp reaches, for its row: lines that the kit's printer wrote for this claim, set shorter by a program of this session (own.py), and what fell in Lean proved anew. Lean checks them. -/
import Derived.Test.YtnghncedinngoaaSFnExactPutUpx0
import Derived.Test.YtnghncedinngoaaSFnExactPutUpx3
namespace Go.Proofs.Ytnghncedinngoaa.PFnExactPutUp
open Go.RowKit Go.Proofs.YtnghncedinngoaaW.PrintWords Go.Proofs.YtnghncedinngoaaW.PrintLast Go.Proofs.YtnghncedinngoaaW.PrintMore
attribute [local go_sem] max2_int min2_int max_two min_two max_three min_three max_four min_four   -- for this text's walks alone
set_option linter.unusedVariables false
set_option linter.unusedSimpArgs false

abbrev m0_5 : Array Bool := #[Z,Z,Z,Z,Z,Z,Z,Z,Z,Z,Z,Z,Z,Z,Z,Z,Z,Z,Z,Z,Z,Z,Z,Z,Z,Z,Z,Z,Z,Z,Z,Z,Z,Z,Z,Z,Z,Z,Z,Z,Z,Z,Z]
abbrev m1_5 : Array Bool := #[Y,Z,Z,Z,Z,Z,Z,Z,Z,Z,Z,Z,Z,Z,Z,Z,Z,Z,Z,Z,Z,Z,Z,Z,Z,Z,Z,Z,Z,Z,Z,Z,Z,Z,Z,Z,Z,Z,Z,Z,Z,Z,Z]
abbrev m2_5 : Array Bool := #[Y,Y,Z,Z,Z,Z,Z,Z,Z,Z,Z,Z,Z,Z,Z,Z,Z,Z,Z,Z,Z,Z,Z,Z,Z,Z,Z,Z,Z,Z,Z,Z,Z,Z,Z,Z,Z,Z,Z,Z,Z,Z,Z]
abbrev m3_5 : Array Bool := #[Y,Y,Y,Z,Z,Z,Z,Z,Z,Z,Z,Z,Z,Z,Z,Z,Z,Z,Z,Z,Z,Z,Z,Z,Z,Z,Z,Z,Z,Z,Z,Z,Z,Z,Z,Z,Z,Z,Z,Z,Z,Z,Z]
abbrev m4_5 : Array Bool := #[Y,Y,Y,Y,Z,Z,Z,Z,Z,Z,Z,Z,Z,Z,Z,Z,Z,Z,Z,Z,Z,Z,Z,Z,Z,Z,Z,Z,Z,Z,Z,Z,Z,Z,Z,Z,Z,Z,Z,Z,Z,Z,Z]
abbrev m5_5 : Array Bool := #[Y,Y,Y,Y,Y,Z,Z,Z,Z,Z,Z,Z,Z,Z,Z,Z,Z,Z,Z,Z,Z,Z,Z,Z,Z,Z,Z,Z,Z,Z,Z,Z,Z,Z,Z,Z,Z,Z,Z,Z,Z,Z,Z]
abbrev m6_5 : Array Bool := #[Y,Y,Y,Y,Y,Y,Z,Z,Z,Z,Z,Z,Z,Z,Z,Z,Z,Z,Z,Z,Z,Z,Z,Z,Z,Z,Z,Z,Z,Z,Z,Z,Z,Z,Z,Z,Z,Z,Z,Z,Z,Z,Z]
abbrev m7_5 : Array Bool := #[Y,Y,Y,Y,Y,Y,Y,Z,Z,Z,Z,Z,Z,Z,Z,Z,Z,Z,Z,Z,Z,Z,Z,Z,Z,Z,Z,Z,Z,Z,Z,Z,Z,Z,Z,Z,Z,Z,Z,Z,Z,Z,Z]
abbrev m8_5 : Array Bool := #[Y,Y,Y,Y,Y,Y,Y,Y,Z,Z,Z,Z,Z,Z,Z,Z,Z,Z,Z,Z,Z,Z,Z,Z,Z,Z,Z,Z,Z,Z,Z,Z,Z,Z,Z,Z,Z,Z,Z,Z,Z,Z,Z]
abbrev m9_5 : Array Bool := #[Y,Y,Y,Y,Y,Y,Y,Y,Y,Z,Z,Z,Z,Z,Z,Z,Z,Z,Z,Z,Z,Z,Z,Z,Z,Z,Z,Z,Z,Z,Z,Z,Z,Z,Z,Z,Z,Z,Z,Z,Z,Z,Z]
abbrev m10_5 : Array Bool := #[Y,Y,Y,Y,Y,Y,Y,Y,Y,Y,Z,Z,Z,Z,Z,Z,Z,Z,Z,Z,Z,Z,Z,Z,Z,Z,Z,Z,Z,Z,Z,Z,Z,Z,Z,Z,Z,Z,Z,Z,Z,Z,Z]
abbrev m11_5 : Array Bool := #[Y,Y,Y,Y,Y,Y,Y,Y,Y,Y,Y,Z,Z,Z,Z,Z,Z,Z,Z,Z,Z,Z,Z,Z,Z,Z,Z,Z,Z,Z,Z,Z,Z,Z,Z,Z,Z,Z,Z,Z,Z,Z,Z]
abbrev m12_5 : Array Bool := #[Y,Y,Y,Y,Y,Y,Y,Y,Y,Y,Y,Y,Z,Z,Z,Z,Z,Z,Z,Z,Z,Z,Z,Z,Z,Z,Z,Z,Z,Z,Z,Z,Z,Z,Z,Z,Z,Z,Z,Z,Z,Z,Z]
abbrev m13_5 : Array Bool := #[Y,Y,Y,Y,Y,Y,Y,Y,Y,Y,Y,Y,Y,Z,Z,Z,Z,Z,Z,Z,Z,Z,Z,Z,Z,Z,Z,Z,Z,Z,Z,Z,Z,Z,Z,Z,Z,Z,Z,Z,Z,Z,Z]
abbrev m14_5 : Array Bool := #[Y,Y,Y,Y,Y,Y,Y,Y,Y,Y,Y,Y,Y,Y,Z,Z,Z,Z,Z,Z,Z,Z,Z,Z,Z,Z,Z,Z,Z,Z,Z,Z,Z,Z,Z,Z,Z,Z,Z,Z,Z,Z,Z]
abbrev m15_5 : Array Bool := #[Y,Y,Y,Y,Y,Y,Y,Y,Y,Y,Y,Y,Y,Y,Y,Z,Z,Z,Z,Z,Z,Z,Z,Z,Z,Z,Z,Z,Z,Z,Z,Z,Z,Z,Z,Z,Z,Z,Z,Z,Z,Z,Z]
abbrev m16_5 : Array Bool := #[Y,Y,Y,Y,Y,Y,Y,Y,Y,Y,Y,Y,Y,Y,Y,Y,Z,Z,Z,Z,Z,Z,Z,Z,Z,Z,Z,Z,Z,Z,Z,Z,Z,Z,Z,Z,Z,Z,Z,Z,Z,Z,Z]
abbrev m17_5 : Array Bool := #[Y,Y,Y,Y,Y,Y,Y,Y,Y,Y,Y,Y,Y,Y,Y,Y,Y,Z,Z,Z,Z,Z,Z,Z,Z,Z,Z,Z,Z,Z,Z,Z,Z,Z,Z,Z,Z,Z,Z,Z,Z,Z,Z]
abbrev m18_5 : Array Bool := #[Y,Y,Y,Y,Y,Y,Y,Y,Y,Y,Y,Y,Y,Y,Y,Y,Y,Y,Z,Z,Z,Z,Z,Z,Z,Z,Z,Z,Z,Z,Z,Z,Z,Z,Z,Z,Z,Z,Z,Z,Z,Z,Z]
abbrev m19_5 : Array Bool := #[Y,Y,Y,Y,Y,Y,Y,Y,Y,Y,Y,Y,Y,Y,Y,Y,Y,Y,Y,Z,Z,Z,Z,Z,Z,Z,Z,Z,Z,Z,Z,Z,Z,Z,Z,Z,Z,Z,Z,Z,Z,Z,Z]
abbrev m20_5 : Array Bool := #[Y,Y,Y,Y,Y,Y,Y,Y,Y,Y,Y,Y,Y,Y,Y,Y,Y,Y,Y,Y,Z,Z,Z,Z,Z,Z,Z,Z,Z,Z,Z,Z,Z,Z,Z,Z,Z,Z,Z,Z,Z,Z,Z]
abbrev m21_5 : Array Bool := #[Y,Y,Y,Y,Y,Y,Y,Y,Y,Y,Y,Y,Y,Y,Y,Y,Y,Y,Y,Y,Y,Z,Z,Z,Z,Z,Z,Z,Z,Z,Z,Z,Z,Z,Z,Z,Z,Z,Z,Z,Z,Z,Z]
abbrev m22_5 : Array Bool := #[Y,Y,Y,Y,Y,Y,Y,Y,Y,Y,Y,Y,Y,Y,Y,Y,Y,Y,Y,Y,Y,Y,Z,Z,Z,Z,Z,Z,Z,Z,Z,Z,Z,Z,Z,Z,Z,Z,Z,Z,Z,Z,Z]
abbrev m23_5 : Array Bool := #[Y,Y,Y,Y,Y,Y,Y,Y,Y,Y,Y,Y,Y,Y,Y,Y,Y,Y,Y,Y,Y,Y,Y,Z,Z,Z,Z,Z,Z,Z,Z,Z,Z,Z,Z,Z,Z,Z,Z,Z,Z,Z,Z]
abbrev m24_5 : Array Bool := #[Y,Y,Y,Y,Y,Y,Y,Y,Y,Y,Y,Y,Y,Y,Y,Y,Y,Y,Y,Y,Y,Y,Y,Y,Z,Z,Z,Z,Z,Z,Z,Z,Z,Z,Z,Z,Z,Z,Z,Z,Z,Z,Z]
abbrev m25_5 : Array Bool := #[Y,Y,Y,Y,Y,Y,Y,Y,Y,Y,Y,Y,Y,Y,Y,Y,Y,Y,Y,Y,Y,Y,Y,Y,Y,Z,Z,Z,Z,Z,Z,Z,Z,Z,Z,Z,Z,Z,Z,Z,Z,Z,Z]
abbrev m26_5 : Array Bool := #[Y,Y,Y,Y,Y,Y,Y,Y,Y,Y,Y,Y,Y,Y,Y,Y,Y,Y,Y,Y,Y,Y,Y,Y,Y,Y,Z,Z,Z,Z,Z,Z,Z,Z,Z,Z,Z,Z,Z,Z,Z,Z,Z]
abbrev m27_5 : Array Bool := #[Y,Y,Y,Y,Y,Y,Y,Y,Y,Y,Y,Y,Y,Y,Y,Y,Y,Y,Y,Y,Y,Y,Y,Y,Y,Y,Y,Z,Z,Z,Z,Z,Z,Z,Z,Z,Z,Z,Z,Z,Z,Z,Z]
abbrev m28_5 : Array Bool := #[Y,Y,Y,Y,Y,Y,Y,Y,Y,Y,Y,Y,Y,Y,Y,Y,Y,Y,Y,Y,Y,Y,Y,Y,Y,Y,Y,Y,Z,Z,Z,Z,Z,Z,Z,Z,Z,Z,Z,Z,Z,Z,Z]
abbrev m29_5 : Array Bool := #[Y,Y,Y,Y,Y,Y,Y,Y,Y,Y,Y,Y,Y,Y,Y,Y,Y,Y,Y,Y,Y,Y,Y,Y,Y,Y,Y,Y,Y,Z,Z,Z,Z,Z,Z,Z,Z,Z,Z,Z,Z,Z,Z]
abbrev m30_5 : Array Bool := #[Y,Y,Y,Y,Y,Y,Y,Y,Y,Y,Y,Y,Y,Y,Y,Y,Y,Y,Y,Y,Y,Y,Y,Y,Y,Y,Y,Y,Y,Y,Z,Z,Z,Z,Z,Z,Z,Z,Z,Z,Z,Z,Z]
abbrev m31_5 : Array Bool := #[Y,Y,Y,Y,Y,Y,Y,Y,Y,Y,Y,Y,Y,Y,Y,Y,Y,Y,Y,Y,Y,Y,Y,Y,Y,Y,Y,Y,Y,Y,Y,Z,Z,Z,Z,Z,Z,Z,Z,Z,Z,Z,Z]
abbrev m32_5 : Array Bool := #[Y,Y,Y,Y,Y,Y,Y,Y,Y,Y,Y,Y,Y,Y,Y,Y,Y,Y,Y,Y,Y,Y,Y,Y,Y,Y,Y,Y,Y,Y,Y,Y,Z,Z,Z,Z,Z,Z,Z,Z,Z,Z,Z]
abbrev m33_5 : Array Bool := #[Y,Y,Y,Y,Y,Y,Y,Y,Y,Y,Y,Y,Y,Y,Y,Y,Y,Y,Y,Y,Y,Y,Y,Y,Y,Y,Y,Y,Y,Y,Y,Y,Y,Z,Z,Z,Z,Z,Z,Z,Z,Z,Z]
abbrev m34_5 : Array Bool := #[Y,Y,Y,Y,Y,Y,Y,Y,Y,Y,Y,Y,Y,Y,Y,Y,Y,Y,Y,Y,Y,Y,Y,Y,Y,Y,Y,Y,Y,Y,Y,Y,Y,Y,Z,Z,Z,Z,Z,Z,Z,Z,Z]
abbrev m35_5 : Array Bool := #[Y,Y,Y,Y,Y,Y,Y,Y,Y,Y,Y,Y,Y,Y,Y,Y,Y,Y,Y,Y,Y,Y,Y,Y,Y,Y,Y,Y,Y,Y,Y,Y,Y,Y,Z,Y,Z,Z,Z,Z,Z,Z,Z]
abbrev m36_5 : Array Bool := #[Y,Y,Y,Y,Y,Y,Y,Y,Y,Y,Y,Y,Y,Y,Y,Y,Y,Y,Y,Y,Y,Y,Y,Y,Y,Y,Y,Y,Y,Y,Y,Y,Y,Y,Z,Y,Y,Z,Z,Z,Z,Z,Z]
abbrev m37_5 : Array Bool := #[Y,Y,Y,Y,Y,Y,Y,Y,Y,Y,Y,Y,Y,Y,Y,Y,Y,Y,Y,Y,Y,Y,Y,Y,Y,Y,Y,Y,Y,Y,Y,Y,Y,Y,Z,Y,Y,Y,Z,Z,Z,Z,Z]
abbrev m38_5 : Array Bool := #[Y,Y,Y,Y,Y,Y,Y,Y,Y,Y,Y,Y,Y,Y,Y,Y,Y,Y,Y,Y,Y,Y,Y,Y,Y,Y,Y,Y,Y,Y,Y,Y,Y,Y,Z,Y,Y,Y,Y,Z,Z,Z,Z]
abbrev m39_5 : Array Bool := #[Y,Y,Y,Y,Y,Y,Y,Y,Y,Y,Y,Y,Y,Y,Y,Y,Y,Y,Y,Y,Y,Y,Y,Y,Y,Y,Y,Y,Y,Y,Y,Y,Y,Y,Y,Y,Y,Y,Y,Z,Z,Z,Z]
abbrev m40_5 : Array Bool := #[Y,Y,Y,Y,Y,Y,Y,Y,Y,Y,Y,Y,Y,Y,Y,Y,Y,Y,Y,Y,Y,Y,Y,Y,Y,Y,Y,Y,Y,Y,Y,Y,Y,Y,Y,Y,Y,Y,Y,Y,Z,Z,Z]
abbrev m41_5 : Array Bool := #[Y,Y,Y,Y,Y,Y,Y,Y,Y,Y,Y,Y,Y,Y,Y,Y,Y,Y,Y,Y,Y,Y,Y,Y,Y,Y,Y,Y,Y,Y,Y,Y,Y,Y,Y,Y,Y,Y,Y,Y,Y,Z,Z]
abbrev m42_5 : Array Bool := #[Y,Y,Y,Y,Y,Y,Y,Y,Y,Y,Y,Y,Y,Y,Y,Y,Y,Y,Y,Y,Y,Y,Y,Y,Y,Y,Y,Y,Y,Y,Y,Y,Y,Y,Y,Y,Y,Y,Y,Y,Y,Y,Z]
abbrev m43_5 : Array Bool := #[Y,Y,Y,Y,Y,Y,Y,Y,Y,Y,Y,Y,Y,Y,Y,Y,Y,Y,Y,Y,Y,Y,Y,Y,Y,Y,Y,Y,Y,Y,Y,Y,Y,Y,Y,Y,Y,Y,Y,Y,Y,Y,Y]
abbrev m44_5 : Array Bool := #[Y,Y,Y,Y,Y,Y,Y,Y,Y,Y,Y,Y,Y,Y,Y,Y,Y,Y,Y,Y,Y,Y,Y,Y,Y,Y,Y,Y,Y,Y,Y,Y,Y,Y,Y,Z,Z,Z,Z,Z,Z,Z,Z]
abbrev m45_5 : Array Bool := #[Y,Y,Y,Y,Y,Y,Y,Y,Y,Y,Y,Y,Y,Y,Y,Y,Y,Y,Y,Y,Y,Y,Y,Y,Y,Y,Y,Y,Y,Y,Y,Y,Y,Y,Y,Y,Z,Z,Z,Z,Z,Z,Z]
abbrev m46_5 : Array Bool := #[Y,Y,Y,Y,Y,Y,Y,Y,Y,Y,Y,Y,Y,Y,Y,Y,Y,Y,Y,Y,Y,Y,Y,Y,Y,Y,Y,Y,Y,Y,Y,Y,Y,Y,Y,Y,Y,Z,Z,Z,Z,Z,Z]
abbrev m47_5 : Array Bool := #[Y,Y,Y,Y,Y,Y,Y,Y,Y,Y,Y,Y,Y,Y,Y,Y,Y,Y,Y,Y,Y,Y,Y,Y,Y,Y,Y,Y,Y,Y,Y,Y,Y,Y,Y,Y,Y,Y,Z,Z,Z,Z,Z]
/-! ### spec_AreCrew: function 35 -/
def spec_AreCrew.l0 : Nat → List (S49) → Int → Option (Bool)
 | 0,_,_ => none
 | k + 1,x0,x3 => if x3 < (x0.length : Int) then (if 0 ≤ x3 then ((spec_l1In.f ((rd_T49 x0 x3).f0) 1 99).bind fun t178 => (if t178 = true then ((spec_l1In.f ((rd_T49 x0 x3).f1) 0 100).bind fun t180 => (if t180 = true then ((spec_l1In.f ((rd_T49 x0 x3).f2) 1 10).bind fun t182 => (if t182 = true then (if x3 > 0 then (if 0 ≤ (wrap64 (x3 - 1)) then (if (wrap64 (x3 - 1)) < (x0.length : Int) then (if ((rd_T49 x0 (wrap64 (x3 - 1))).f0) ≥ ((rd_T49 x0 x3).f0) then (some false) else (spec_AreCrew.l0 k x0 (wrap64 (x3 + 1)))) else (none)) else (none)) else (spec_AreCrew.l0 k x0 (wrap64 (x3 + 1)))) else (some false))) else (some false))) else (some false))) else (none)) else ((spec_l1In.f (x0.length : Int) 1 8).bind fun t176 => (some t176))
def spec_AreCrew.f (k : Nat) (l0 : List (S49)) : Option (Bool) := spec_AreCrew.l0 k l0 0
theorem spec_AreCrew.mono_l : ∀ k, (∀ y0 y1, LeO (spec_AreCrew.l0 k y0 y1) (spec_AreCrew.l0 (k + 1) y0 y1))
 | 0 => fun _ _ r h => by simp [spec_AreCrew.l0] at h
 | k + 1 => by
  have ih0:=spec_AreCrew.mono_l k
  ·intro y0 y1
   unfold spec_AreCrew.l0
   repeat' first
   | (with_reducible exact ih0 _ _)
   | (with_reducible exact LeO.refl _)
   | (with_reducible exact LeO.none _)
   | (with_reducible refine LeO.ite ?_ ?_)
   | (with_reducible refine LeO.bind ?_ (fun _ => ?_))
   | exact ih0 _ _
   | exact LeO.none _
   | refine LeO.ite ?_ ?_
   | refine LeO.bind ?_ (fun _ => ?_)
theorem spec_AreCrew.mono : ∀ a0 k, LeO (spec_AreCrew.f k a0) (spec_AreCrew.f (k + 1) a0) := by
 intro a0 k
 have ih0:=spec_AreCrew.mono_l k
 unfold spec_AreCrew.f
 repeat' first
   | (with_reducible exact ih0 _ _)
   | (with_reducible exact LeO.refl _)
   | (with_reducible exact LeO.none _)
   | (with_reducible refine LeO.ite ?_ ?_)
   | (with_reducible refine LeO.bind ?_ (fun _ => ?_))
   | exact ih0 _ _
   | exact LeO.none _
   | refine LeO.ite ?_ ?_
   | refine LeO.bind ?_ (fun _ => ?_)
def spec_AreCrew.T4 : Bool × List (List Nat × List Nat) := (true, [([], []), ([], []), ([0, 1], [0, 1]), ([2], [2]), ([3], [3]), ([4], [4]), ([5], [5]), ([6, 5], [6]), ([7], [7]), ([7], [7]), ([8, 9, 7], [7, 8, 9]), ([10, 7], [7, 10]), ([11, 7], [7, 11]), ([12, 7, 7], [7, 12]), ([13, 7], [7, 13]), ([7, 14], [7, 14]), ([15, 13], [15]), ([16], [16]), ([16], [16]), ([17, 18, 16], [16, 17, 18]), ([19, 16], [16, 19]), ([20, 16], [16, 20]), ([21, 16, 16], [16, 21]), ([22, 16], [16, 22]), ([16, 23], [16, 23]), ([24, 22], [24]), ([25], [25]), ([26, 25], [25, 26]), ([27, 25, 25], [25, 27]), ([28], [28]), ([28], [28]), ([30, 28], [28, 30]), ([29, 31, 28], [28, 29, 31]), ([32, 28], [28, 32]), ([33, 28], [28, 33]), ([28], [28]), ([28], [28]), ([35, 36, 28], [28, 35, 36]), ([37, 28], [28, 37]), ([38, 28], [28, 38]), ([34, 39, 28], [28, 34, 39]), ([28, 40, 25], [25, 28, 40]), ([25, 41], [25, 41])])
def spec_AreCrew.B4 : List Nat := [0, 0, 3, 7, 15, 31, 63, 127, 255, 255, 1023, 2047, 4095, 8191, 16383, 32767, 65535, 131071, 131071, 524287, 1048575, 2097151, 4194303, 8388607, 16777215, 33554431, 67108863, 134217727, 268435455, 536870911, 536870911, 1610612735, 4294967295, 8589934591, 17179869183, 536870911, 536870911, 103616086015, 241055039487, 515932946431, 1099511627775, 2199023255551, 4398046511103]
theorem spec_AreCrew.tab4 : rtab .any (opsOf Try.f35 4) = spec_AreCrew.T4 := by kernel_rfl
theorem spec_AreCrew.bits4 : waitsOk spec_AreCrew.T4.2 spec_AreCrew.B4 = true := by kernel_rfl
set_option maxHeartbeats 8000000 in
set_option maxRecDepth 100000 in
theorem spec_AreCrew.calls (k : Nat) (A0 : Option Addr) (c0 : Nat) (l0 : List (S49)) (r : Bool) (w : World) (hr0 : Kd.C k49 w A0 l0.length l0) (hc0 : l0.length ≤ c0) (h : spec_AreCrew.f k l0 = some r) :
  Calls Try.prog 35 #[.slice A0 l0.length c0] w fun e w' => e = .returned (.bool r) ∧ Below w.heap.size w w':=by
 have HR0:=am hr0;have HC0:=am hc0;clear hr0 hc0;have HB:=am qq130;have H : (spec_AreCrew.l0 k l0 0) = some r:=h;clear h;have H':=am H;clear H
 go_enter Try.func35,Try.ntmps35
 go_wp2
 go_loopg [3] k (fun kq v3 w' => ∃ (x3_1 : Int),v3 = .int .i64 x3_1 ∧ Aside0 (spec_AreCrew.l0 kq l0 x3_1 = some r) ∧ Aside0 (kq ≤ k) ∧ Aside0 (Below w.heap.size w w'))
 case atStart => exact ⟨(0),qq101,H',⟨Nat.le_refl _⟩,⟨qq71⟩⟩
 case round =>
  clear H';obtain ⟨x3_1,rfl,HA,HK1,HB⟩:=hrel
  cases gk with
  | zero => exact absurd HA.out (by simp [spec_AreCrew.l0])
  | succ k1 =>
   have H:=HA.out;clear HA;simp only [spec_AreCrew.l0] at H
   by_cases c2 : x3_1 < (l0.length : Int)
   ·rw [if_pos c2] at H;have c2b0 : decide (x3_1 < (l0.length : Int)) = true:=decide_eq_true c2;clear c2
    by_cases c3 : 0 ≤ x3_1
    ·rw [if_pos c3] at H;have c3b0 : decide (0 ≤ x3_1) = true:=decide_eq_true c3;clear c3;replace H:=bS.mp H;obtain ⟨t178,A40,H⟩:=H;replace H : (if t178 = true then ((spec_l1In.f ((rd_T49 l0 x3_1).f1) 0 100).bind fun t180 => (if t180 = true then ((spec_l1In.f ((rd_T49 l0 x3_1).f2) 1 10).bind fun t182 => (if t182 = true then (if x3_1 > 0 then (if 0 ≤ (wrap64 (x3_1 - 1)) then (if (wrap64 (x3_1 - 1)) < (l0.length : Int) then (if ((rd_T49 l0 (wrap64 (x3_1 - 1))).f0) ≥ ((rd_T49 l0 x3_1).f0) then (some false) else (spec_AreCrew.l0 k1 l0 (wrap64 (x3_1 + 1)))) else (none)) else (none)) else (spec_AreCrew.l0 k1 l0 (wrap64 (x3_1 + 1)))) else (some false))) else (some false))) else (some false)) = some r:=H;have A4:=am A40;clear A40
     by_cases c5 : t178 = true
     ·subst c5;have H1 : ((spec_l1In.f ((rd_T49 l0 x3_1).f1) 0 100).bind fun t180 => (if t180 = true then ((spec_l1In.f ((rd_T49 l0 x3_1).f2) 1 10).bind fun t182 => (if t182 = true then (if x3_1 > 0 then (if 0 ≤ (wrap64 (x3_1 - 1)) then (if (wrap64 (x3_1 - 1)) < (l0.length : Int) then (if ((rd_T49 l0 (wrap64 (x3_1 - 1))).f0) ≥ ((rd_T49 l0 x3_1).f0) then (some false) else (spec_AreCrew.l0 k1 l0 (wrap64 (x3_1 + 1)))) else (none)) else (none)) else (spec_AreCrew.l0 k1 l0 (wrap64 (x3_1 + 1)))) else (some false))) else (some false))) = some r:=by rw [if_pos rfl] at H;exact H
      clear H;have H:=H1;clear H1;replace H:=bS.mp H;obtain ⟨t180,A60,H⟩:=H;replace H : (if t180 = true then ((spec_l1In.f ((rd_T49 l0 x3_1).f2) 1 10).bind fun t182 => (if t182 = true then (if x3_1 > 0 then (if 0 ≤ (wrap64 (x3_1 - 1)) then (if (wrap64 (x3_1 - 1)) < (l0.length : Int) then (if ((rd_T49 l0 (wrap64 (x3_1 - 1))).f0) ≥ ((rd_T49 l0 x3_1).f0) then (some false) else (spec_AreCrew.l0 k1 l0 (wrap64 (x3_1 + 1)))) else (none)) else (none)) else (spec_AreCrew.l0 k1 l0 (wrap64 (x3_1 + 1)))) else (some false))) else (some false)) = some r:=H;have A6:=am A60;clear A60
      by_cases c7 : t180 = true
      ·subst c7;have H1 : ((spec_l1In.f ((rd_T49 l0 x3_1).f2) 1 10).bind fun t182 => (if t182 = true then (if x3_1 > 0 then (if 0 ≤ (wrap64 (x3_1 - 1)) then (if (wrap64 (x3_1 - 1)) < (l0.length : Int) then (if ((rd_T49 l0 (wrap64 (x3_1 - 1))).f0) ≥ ((rd_T49 l0 x3_1).f0) then (some false) else (spec_AreCrew.l0 k1 l0 (wrap64 (x3_1 + 1)))) else (none)) else (none)) else (spec_AreCrew.l0 k1 l0 (wrap64 (x3_1 + 1)))) else (some false))) = some r:=by rw [if_pos rfl] at H;exact H
       clear H;have H:=H1;clear H1;replace H:=bS.mp H;obtain ⟨t182,A80,H⟩:=H;replace H : (if t182 = true then (if x3_1 > 0 then (if 0 ≤ (wrap64 (x3_1 - 1)) then (if (wrap64 (x3_1 - 1)) < (l0.length : Int) then (if ((rd_T49 l0 (wrap64 (x3_1 - 1))).f0) ≥ ((rd_T49 l0 x3_1).f0) then (some false) else (spec_AreCrew.l0 k1 l0 (wrap64 (x3_1 + 1)))) else (none)) else (none)) else (spec_AreCrew.l0 k1 l0 (wrap64 (x3_1 + 1)))) else (some false)) = some r:=H;have A8:=am A80;clear A80
       by_cases c9 : t182 = true
       ·subst c9;have H1 : (if x3_1 > 0 then (if 0 ≤ (wrap64 (x3_1 - 1)) then (if (wrap64 (x3_1 - 1)) < (l0.length : Int) then (if ((rd_T49 l0 (wrap64 (x3_1 - 1))).f0) ≥ ((rd_T49 l0 x3_1).f0) then (some false) else (spec_AreCrew.l0 k1 l0 (wrap64 (x3_1 + 1)))) else (none)) else (none)) else (spec_AreCrew.l0 k1 l0 (wrap64 (x3_1 + 1)))) = some r:=by rw [if_pos rfl] at H;exact H
        clear H;have H:=H1;clear H1
        by_cases c10 : x3_1 > 0
        ·rw [if_pos c10] at H;have c10b0 : decide (0 < x3_1) = true:=decide_eq_true c10;clear c10;obtain ⟨ji11,hji11⟩ : ∃ j_ : Int,(wrap64 (x3_1 - 1)) = j_:=⟨_,rfl⟩
         replace H : (if 0 ≤ (ji11) then (if (ji11) < (l0.length : Int) then (if ((rd_T49 l0 (ji11)).f0) ≥ ((rd_T49 l0 x3_1).f0) then (some false) else (spec_AreCrew.l0 k1 l0 (wrap64 (x3_1 + 1)))) else (none)) else (none)) = some r:=by first | (rw [hji11] at H;exact H) | (simp only [hji11] at H ⊢;exact H)
         (try rw [hji11] at A4);(try rw [hji11] at A6);(try rw [hji11] at A8);have hji11w : (IntKind.i64.wrap (x3_1 - 1)) = ji11:=(i64_w _).trans hji11
         by_cases c12 : 0 ≤ (ji11)
         ·rw [if_pos c12] at H;have c12b0 : decide (0 ≤ (ji11)) = true:=decide_eq_true c12;clear c12
          by_cases c13 : (ji11) < (l0.length : Int)
          ·rw [if_pos c13] at H;have c13b0 : decide ((ji11) < (l0.length : Int)) = true:=decide_eq_true c13;clear c13
           by_cases c14 : ((rd_T49 l0 (ji11)).f0) ≥ ((rd_T49 l0 x3_1).f0)
           ·rw [if_pos c14] at H;have c14b0 : decide (((rd_T49 l0 x3_1).f0) ≤ ((rd_T49 l0 (ji11)).f0)) = true:=decide_eq_true c14;clear c14;obtain rfl:=Option.some.inj H
            try go_wp2
            replace HB:=am qq134;have p177 : 0 ≤ (x3_1 : Int):=odt qq100;have q177 : x3_1 < (l0.length : Int):=odt qq100;obtain ⟨ad177,e177,hx177_0,hx177_1,hx177_2,hx177_3⟩:=at_T49 HR0.out x3_1 p177 q177;have hw177_3:=hx177_3;have hw177_2:=hx177_2;have hw177_1:=hx177_1;have hw177_0:=hx177_0
            cases e177
            replace hx177_0:=(ct HB.out hx177_0 :)
            replace hx177_1:=(ct HB.out hx177_1 :)
            replace hx177_2:=(ct HB.out hx177_2 :)
            replace hx177_3:=(ct HB.out hx177_3 :)
            replace p177:=eq_true p177;replace q177:=eq_true q177;have p179 : 0 ≤ (x3_1 : Int):=odt qq100;have q179 : x3_1 < (l0.length : Int):=odt qq100;obtain ⟨ad179,e179,hx179_0,hx179_1,hx179_2,hx179_3⟩:=at_T49 HR0.out x3_1 p179 q179;have hw179_3:=hx179_3;have hw179_2:=hx179_2;have hw179_1:=hx179_1;have hw179_0:=hx179_0;obtain rfl : ad177 = ad179:=(by injection e179)
            replace hx179_0:=(ct HB.out hx179_0 :)
            replace hx179_1:=(ct HB.out hx179_1 :)
            replace hx179_2:=(ct HB.out hx179_2 :)
            replace hx179_3:=(ct HB.out hx179_3 :)
            replace p179:=eq_true p179;replace q179:=eq_true q179;have p181 : 0 ≤ (x3_1 : Int):=odt qq100;have q181 : x3_1 < (l0.length : Int):=odt qq100;obtain ⟨ad181,e181,hx181_0,hx181_1,hx181_2,hx181_3⟩:=at_T49 HR0.out x3_1 p181 q181;have hw181_3:=hx181_3;have hw181_2:=hx181_2;have hw181_1:=hx181_1;have hw181_0:=hx181_0;obtain rfl : ad177 = ad181:=(by injection e181)
            replace hx181_0:=(ct HB.out hx181_0 :)
            replace hx181_1:=(ct HB.out hx181_1 :)
            replace hx181_2:=(ct HB.out hx181_2 :)
            replace hx181_3:=(ct HB.out hx181_3 :)
            replace p181:=eq_true p181;replace q181:=eq_true q181;have p183 : 0 ≤ ((ji11) : Int):=odt qq100;have q183 : (ji11) < (l0.length : Int):=odt qq100;obtain ⟨ad183,e183,hx183_0,hx183_1,hx183_2,hx183_3⟩:=at_T49 HR0.out (ji11) p183 q183;have hw183_3:=hx183_3;have hw183_2:=hx183_2;have hw183_1:=hx183_1;have hw183_0:=hx183_0;obtain rfl : ad177 = ad183:=(by injection e183)
            replace hx183_0:=(ct HB.out hx183_0 :)
            replace hx183_1:=(ct HB.out hx183_1 :)
            replace hx183_2:=(ct HB.out hx183_2 :)
            replace hx183_3:=(ct HB.out hx183_3 :)
            replace p183:=eq_true p183;replace q183:=eq_true q183;have p184 : 0 ≤ (x3_1 : Int):=odt qq100;have q184 : x3_1 < (l0.length : Int):=odt qq100;obtain ⟨ad184,e184,hx184_0,hx184_1,hx184_2,hx184_3⟩:=at_T49 HR0.out x3_1 p184 q184;have hw184_3:=hx184_3;have hw184_2:=hx184_2;have hw184_1:=hx184_1;have hw184_0:=hx184_0;obtain rfl : ad177 = ad184:=(by injection e184)
            replace hx184_0:=(ct HB.out hx184_0 :)
            replace hx184_1:=(ct HB.out hx184_1 :)
            replace hx184_2:=(ct HB.out hx184_2 :)
            replace hx184_3:=(ct HB.out hx184_3 :)
            replace p184:=eq_true p184;replace q184:=eq_true q184;refine start_ (n:=43) (S:=fun w' => w'.cell? (ad177.add ((x3_1).toNat * 4)) = some (.int .i64 ((rd_T49 l0 x3_1).f0)) ∧ w'.cell? ⟨(ad177.add ((x3_1).toNat * 4)).block,(ad177.add ((x3_1).toNat * 4)).off + 1,none⟩ = some (.int .i64 ((rd_T49 l0 x3_1).f1)) ∧ w'.cell? ⟨(ad177.add ((x3_1).toNat * 4)).block,(ad177.add ((x3_1).toNat * 4)).off + 2,none⟩ = some (.int .i64 ((rd_T49 l0 x3_1).f2)) ∧ w'.cell? ⟨(ad177.add ((x3_1).toNat * 4)).block,(ad177.add ((x3_1).toNat * 4)).off + 3,none⟩ = some (.bool ((rd_T49 l0 x3_1).f3)) ∧ w'.cell? (ad177.add ((x3_1).toNat * 4)) = some (.int .i64 ((rd_T49 l0 x3_1).f0)) ∧ w'.cell? ⟨(ad177.add ((x3_1).toNat * 4)).block,(ad177.add ((x3_1).toNat * 4)).off + 1,none⟩ = some (.int .i64 ((rd_T49 l0 x3_1).f1)) ∧ w'.cell? ⟨(ad177.add ((x3_1).toNat * 4)).block,(ad177.add ((x3_1).toNat * 4)).off + 2,none⟩ = some (.int .i64 ((rd_T49 l0 x3_1).f2)) ∧ w'.cell? ⟨(ad177.add ((x3_1).toNat * 4)).block,(ad177.add ((x3_1).toNat * 4)).off + 3,none⟩ = some (.bool ((rd_T49 l0 x3_1).f3)) ∧ w'.cell? (ad177.add ((x3_1).toNat * 4)) = some (.int .i64 ((rd_T49 l0 x3_1).f0)) ∧ w'.cell? ⟨(ad177.add ((x3_1).toNat * 4)).block,(ad177.add ((x3_1).toNat * 4)).off + 1,none⟩ = some (.int .i64 ((rd_T49 l0 x3_1).f1)) ∧ w'.cell? ⟨(ad177.add ((x3_1).toNat * 4)).block,(ad177.add ((x3_1).toNat * 4)).off + 2,none⟩ = some (.int .i64 ((rd_T49 l0 x3_1).f2)) ∧ w'.cell? ⟨(ad177.add ((x3_1).toNat * 4)).block,(ad177.add ((x3_1).toNat * 4)).off + 3,none⟩ = some (.bool ((rd_T49 l0 x3_1).f3)) ∧ w'.cell? (ad177.add (((ji11)).toNat * 4)) = some (.int .i64 ((rd_T49 l0 (ji11)).f0)) ∧ w'.cell? ⟨(ad177.add (((ji11)).toNat * 4)).block,(ad177.add (((ji11)).toNat * 4)).off + 1,none⟩ = some (.int .i64 ((rd_T49 l0 (ji11)).f1)) ∧ w'.cell? ⟨(ad177.add (((ji11)).toNat * 4)).block,(ad177.add (((ji11)).toNat * 4)).off + 2,none⟩ = some (.int .i64 ((rd_T49 l0 (ji11)).f2)) ∧ w'.cell? ⟨(ad177.add (((ji11)).toNat * 4)).block,(ad177.add (((ji11)).toNat * 4)).off + 3,none⟩ = some (.bool ((rd_T49 l0 (ji11)).f3)) ∧ w'.cell? (ad177.add ((x3_1).toNat * 4)) = some (.int .i64 ((rd_T49 l0 x3_1).f0)) ∧ w'.cell? ⟨(ad177.add ((x3_1).toNat * 4)).block,(ad177.add ((x3_1).toNat * 4)).off + 1,none⟩ = some (.int .i64 ((rd_T49 l0 x3_1).f1)) ∧ w'.cell? ⟨(ad177.add ((x3_1).toNat * 4)).block,(ad177.add ((x3_1).toNat * 4)).off + 2,none⟩ = some (.int .i64 ((rd_T49 l0 x3_1).f2)) ∧ w'.cell? ⟨(ad177.add ((x3_1).toNat * 4)).block,(ad177.add ((x3_1).toNat * 4)).off + 3,none⟩ = some (.bool ((rd_T49 l0 x3_1).f3))) (ds:=[]) m0_5 (by kernel_rfl) rfl rfl ⟨(ct HB.out hw177_0 :),(ct HB.out hw177_1 :),(ct HB.out hw177_2 :),(ct HB.out hw177_3 :),(ct HB.out hw179_0 :),(ct HB.out hw179_1 :),(ct HB.out hw179_2 :),(ct HB.out hw179_3 :),(ct HB.out hw181_0 :),(ct HB.out hw181_1 :),(ct HB.out hw181_2 :),(ct HB.out hw181_3 :),(ct HB.out hw183_0 :),(ct HB.out hw183_1 :),(ct HB.out hw183_2 :),(ct HB.out hw183_3 :),(ct HB.out hw184_0 :),(ct HB.out hw184_1 :),(ct HB.out hw184_2 :),(ct HB.out hw184_3 :)⟩ (fun hHeld => ?_);refine with_tabW spec_AreCrew.tab4 spec_AreCrew.bits4 (fun HT_ HW_ => ?_)
            generalize wr.drew = w15 at HB hx177_0 hx177_1 hx177_2 hx177_3 hx179_0 hx179_1 hx179_2 hx179_3 hx181_0 hx181_1 hx181_2 hx181_3 hx183_0 hx183_1 hx183_2 hx183_3 hx184_0 hx184_1 hx184_2 hx184_3 hHeld ⊢
            refine pV (i:=0) (N:=some 10) m1_5 rfl rfl qT ?_
            refine pV (i:=1) (N:=some 11) m2_5 rfl rfl qT ?_
            refine pV (i:=2) (N:=some 12) m3_5 rfl rfl qT ?_
            refine pV (i:=3) (N:=some 13) m4_5 rfl rfl qT ?_
            refine take_ (i:=4) (N:=some 14) (v:=?_) (a':=?_) m5_5 rfl rfl (take_ofW HT_.out HW_.out (by kernel_rfl)) (fun _ _ _ h => h) (Or.inl ⟨by rfl,?_⟩) hHeld ?_ ?_;rotate_left
            ·rintro w' ⟨s0,s1,s2,s3,s4,s5,s6,s7,s8,s9,s10,s11,s12,s13,s14,s15,s16,s17,s18,s19⟩
             go_simp;with_reducible rfl
            rotate_left
            ·simp only [Act.put,sA,s0,s1,i64_w,i32_w];rfl
            refine one_ (i:=5) (N:=some 15) m6_5 rfl rfl (one_of HT_.out (by kernel_rfl)) (by decide) (fun K hK => ?_);refine goes_ Try.func47 (by kernel_rfl) rfl #[.int .i64 ((rd_T49 l0 x3_1).f0),.int .i64 1,.int .i64 99] (by rfl) rfl rfl qq60 ?_;with_reducible refine (spec_l1In.calls ((rd_T49 l0 x3_1).f0) 1 99 true _ A4.out).mono ?_
            rintro e w' ⟨rfl,⟨nd,rfl⟩⟩
            refine ⟨_,rfl,?_⟩;refine hK.out _ _ ⟨(ct HB.out hw177_0 :),(ct HB.out hw177_1 :),(ct HB.out hw177_2 :),(ct HB.out hw177_3 :),(ct HB.out hw179_0 :),(ct HB.out hw179_1 :),(ct HB.out hw179_2 :),(ct HB.out hw179_3 :),(ct HB.out hw181_0 :),(ct HB.out hw181_1 :),(ct HB.out hw181_2 :),(ct HB.out hw181_3 :),(ct HB.out hw183_0 :),(ct HB.out hw183_1 :),(ct HB.out hw183_2 :),(ct HB.out hw183_3 :),(ct HB.out hw184_0 :),(ct HB.out hw184_1 :),(ct HB.out hw184_2 :),(ct HB.out hw184_3 :)⟩ (fun hHeld => ?_);clear hK K;refine norm_ (a':=?_) ?_ ?_;rotate_left
            ·show Act.put _ (some 15) _ = _
             simp only [Act.put,sA,s0,s1,i64_w,i32_w];rfl
            refine pV (i:=6) (N:=some 16) m7_5 rfl rfl qT ?_
            refine pV (i:=7) (N:=some 17) m8_5 rfl rfl qT ?_
            refine pV (i:=8) (N:=some 18) m9_5 rfl rfl qT ?_
            refine pV (i:=9) (N:=some 19) m10_5 rfl rfl qT ?_
            refine pV (i:=10) (N:=some 20) m11_5 rfl rfl qT ?_
            refine pV (i:=11) (N:=some 21) m12_5 rfl rfl qT ?_
            refine take_ (i:=12) (N:=some 22) (v:=?_) (a':=?_) m13_5 rfl rfl (take_ofW HT_.out HW_.out (by kernel_rfl)) (fun _ _ _ h => h) (Or.inl ⟨by rfl,?_⟩) hHeld ?_ ?_;rotate_left
            ·rintro w' ⟨s0,s1,s2,s3,s4,s5,s6,s7,s8,s9,s10,s11,s12,s13,s14,s15,s16,s17,s18,s19⟩
             go_simp;with_reducible rfl
            rotate_left
            ·simp only [Act.put,sA,s0,s1,i64_w,i32_w];rfl
            refine one_ (i:=13) (N:=some 23) m14_5 rfl rfl (one_of HT_.out (by kernel_rfl)) (by decide) (fun K hK => ?_);refine goes_ Try.func47 (by kernel_rfl) rfl #[.int .i64 ((rd_T49 l0 x3_1).f1),.int .i64 0,.int .i64 100] (by rfl) rfl rfl qq60 ?_;with_reducible refine (spec_l1In.calls ((rd_T49 l0 x3_1).f1) 0 100 true _ A6.out).mono ?_
            rintro e w' ⟨rfl,⟨nd,rfl⟩⟩
            refine ⟨_,rfl,?_⟩;refine hK.out _ _ ⟨(ct HB.out hw177_0 :),(ct HB.out hw177_1 :),(ct HB.out hw177_2 :),(ct HB.out hw177_3 :),(ct HB.out hw179_0 :),(ct HB.out hw179_1 :),(ct HB.out hw179_2 :),(ct HB.out hw179_3 :),(ct HB.out hw181_0 :),(ct HB.out hw181_1 :),(ct HB.out hw181_2 :),(ct HB.out hw181_3 :),(ct HB.out hw183_0 :),(ct HB.out hw183_1 :),(ct HB.out hw183_2 :),(ct HB.out hw183_3 :),(ct HB.out hw184_0 :),(ct HB.out hw184_1 :),(ct HB.out hw184_2 :),(ct HB.out hw184_3 :)⟩ (fun hHeld => ?_);clear hK K;refine norm_ (a':=?_) ?_ ?_;rotate_left
            ·show Act.put _ (some 23) _ = _
             simp only [Act.put,sA,s0,s1,i64_w,i32_w];rfl
            refine pV (i:=14) (N:=some 24) m15_5 rfl rfl qT ?_
            refine pV (i:=15) (N:=some 25) m16_5 rfl rfl qT ?_
            refine pV (i:=16) (N:=some 26) m17_5 rfl rfl qT ?_
            refine pV (i:=17) (N:=some 27) m18_5 rfl rfl qT ?_
            refine pV (i:=18) (N:=some 28) m19_5 rfl rfl qT ?_
            refine pV (i:=19) (N:=some 29) m20_5 rfl rfl qT ?_
            refine pV (i:=20) (N:=some 30) m21_5 rfl rfl qT ?_
            refine take_ (i:=21) (N:=some 31) (v:=?_) (a':=?_) m22_5 rfl rfl (take_ofW HT_.out HW_.out (by kernel_rfl)) (fun _ _ _ h => h) (Or.inl ⟨by rfl,?_⟩) hHeld ?_ ?_;rotate_left
            ·rintro w' ⟨s0,s1,s2,s3,s4,s5,s6,s7,s8,s9,s10,s11,s12,s13,s14,s15,s16,s17,s18,s19⟩
             go_simp;with_reducible rfl
            rotate_left
            ·simp only [Act.put,sA,s0,s1,i64_w,i32_w];rfl
            refine one_ (i:=22) (N:=some 32) m23_5 rfl rfl (one_of HT_.out (by kernel_rfl)) (by decide) (fun K hK => ?_);refine goes_ Try.func47 (by kernel_rfl) rfl #[.int .i64 ((rd_T49 l0 x3_1).f2),.int .i64 1,.int .i64 10] (by rfl) rfl rfl qq60 ?_;with_reducible refine (spec_l1In.calls ((rd_T49 l0 x3_1).f2) 1 10 true _ A8.out).mono ?_
            rintro e w' ⟨rfl,⟨nd,rfl⟩⟩
            refine ⟨_,rfl,?_⟩;refine hK.out _ _ ⟨(ct HB.out hw177_0 :),(ct HB.out hw177_1 :),(ct HB.out hw177_2 :),(ct HB.out hw177_3 :),(ct HB.out hw179_0 :),(ct HB.out hw179_1 :),(ct HB.out hw179_2 :),(ct HB.out hw179_3 :),(ct HB.out hw181_0 :),(ct HB.out hw181_1 :),(ct HB.out hw181_2 :),(ct HB.out hw181_3 :),(ct HB.out hw183_0 :),(ct HB.out hw183_1 :),(ct HB.out hw183_2 :),(ct HB.out hw183_3 :),(ct HB.out hw184_0 :),(ct HB.out hw184_1 :),(ct HB.out hw184_2 :),(ct HB.out hw184_3 :)⟩ (fun hHeld => ?_);clear hK K;refine norm_ (a':=?_) ?_ ?_;rotate_left
            ·show Act.put _ (some 32) _ = _
             simp only [Act.put,sA,s0,s1,i64_w,i32_w];rfl
            refine pV (i:=23) (N:=some 33) m24_5 rfl rfl qT ?_
            refine pV (i:=24) (N:=some 34) m25_5 rfl rfl qT ?_
            refine pV (i:=25) (N:=some 35) m26_5 rfl rfl qT ?_
            refine pV (i:=26) (N:=some 36) m27_5 rfl rfl qT ?_
            refine pV (i:=27) (N:=some 37) m28_5 rfl rfl qT ?_
            refine pV (i:=28) (N:=some 38) m29_5 rfl rfl qT ?_
            refine pV (i:=29) (N:=some 39) m30_5 rfl rfl qT ?_
            refine pV (i:=30) (N:=some 40) m31_5 rfl rfl qT ?_
            refine pV (i:=31) (N:=some 41) m32_5 rfl rfl qT ?_
            refine pV (i:=32) (N:=some 42) m33_5 rfl rfl qT ?_
            refine pV (i:=33) (N:=some 43) m34_5 rfl rfl qT ?_
            refine pV (i:=35) (N:=some 45) m35_5 rfl rfl qT ?_
            refine pV (i:=36) (N:=some 46) m36_5 rfl rfl qT ?_
            refine pV (i:=37) (N:=some 47) m37_5 rfl rfl qT ?_
            refine pV (i:=38) (N:=some 48) m38_5 rfl rfl qT ?_
            refine take_ (i:=34) (N:=some 44) (v:=?_) (a':=?_) m39_5 rfl rfl (take_ofW HT_.out HW_.out (by kernel_rfl)) (fun _ _ _ h => h) (Or.inl ⟨by rfl,?_⟩) hHeld ?_ ?_;rotate_left
            ·rintro w' ⟨s0,s1,s2,s3,s4,s5,s6,s7,s8,s9,s10,s11,s12,s13,s14,s15,s16,s17,s18,s19⟩
             go_simp;with_reducible rfl
            rotate_left
            ·simp only [Act.put,sA,s0,s1,i64_w,i32_w];rfl
            refine take_ (i:=39) (N:=some 49) (v:=?_) (a':=?_) m40_5 rfl rfl (take_ofW HT_.out HW_.out (by kernel_rfl)) (fun _ _ _ h => h) (Or.inl ⟨by rfl,?_⟩) hHeld ?_ ?_;rotate_left
            ·rintro w' ⟨s0,s1,s2,s3,s4,s5,s6,s7,s8,s9,s10,s11,s12,s13,s14,s15,s16,s17,s18,s19⟩
             go_simp;with_reducible rfl
            rotate_left
            ·simp only [Act.put,sA,s0,s1,i64_w,i32_w];rfl
            refine pV (i:=40) (N:=some 50) m41_5 rfl rfl qT ?_
            refine pV (i:=41) (N:=some 51) m42_5 rfl rfl qT ?_
            refine pV (i:=42) (N:=some 52) m43_5 rfl rfl qT ?_
            refine done_ (done_of HT_.out (by kernel_rfl)) ?_
            try go_wp2
            go_ret
            exact ⟨by first | rfl | (simp [errW_none,errW_some] <;> rfl) | (simp only [← hji11];first | rfl | (simp [errW_none,errW_some] <;> rfl)) | (simp [*,errW_none,errW_some] <;> rfl),qq71⟩
           ·rw [if_neg c14] at H;have c14b0 : decide (((rd_T49 l0 x3_1).f0) ≤ ((rd_T49 l0 (ji11)).f0)) = false:=decide_eq_false c14;clear c14;have H':=am H;clear H
            try go_wp2
            replace HB:=am qq134;have p177 : 0 ≤ (x3_1 : Int):=odt qq100;have q177 : x3_1 < (l0.length : Int):=odt qq100;obtain ⟨ad177,e177,hx177_0,hx177_1,hx177_2,hx177_3⟩:=at_T49 HR0.out x3_1 p177 q177;have hw177_3:=hx177_3;have hw177_2:=hx177_2;have hw177_1:=hx177_1;have hw177_0:=hx177_0
            cases e177
            replace hx177_0:=(ct HB.out hx177_0 :)
            replace hx177_1:=(ct HB.out hx177_1 :)
            replace hx177_2:=(ct HB.out hx177_2 :)
            replace hx177_3:=(ct HB.out hx177_3 :)
            replace p177:=eq_true p177;replace q177:=eq_true q177;have p179 : 0 ≤ (x3_1 : Int):=odt qq100;have q179 : x3_1 < (l0.length : Int):=odt qq100;obtain ⟨ad179,e179,hx179_0,hx179_1,hx179_2,hx179_3⟩:=at_T49 HR0.out x3_1 p179 q179;have hw179_3:=hx179_3;have hw179_2:=hx179_2;have hw179_1:=hx179_1;have hw179_0:=hx179_0;obtain rfl : ad177 = ad179:=(by injection e179)
            replace hx179_0:=(ct HB.out hx179_0 :)
            replace hx179_1:=(ct HB.out hx179_1 :)
            replace hx179_2:=(ct HB.out hx179_2 :)
            replace hx179_3:=(ct HB.out hx179_3 :)
            replace p179:=eq_true p179;replace q179:=eq_true q179;have p181 : 0 ≤ (x3_1 : Int):=odt qq100;have q181 : x3_1 < (l0.length : Int):=odt qq100;obtain ⟨ad181,e181,hx181_0,hx181_1,hx181_2,hx181_3⟩:=at_T49 HR0.out x3_1 p181 q181;have hw181_3:=hx181_3;have hw181_2:=hx181_2;have hw181_1:=hx181_1;have hw181_0:=hx181_0;obtain rfl : ad177 = ad181:=(by injection e181)
            replace hx181_0:=(ct HB.out hx181_0 :)
            replace hx181_1:=(ct HB.out hx181_1 :)
            replace hx181_2:=(ct HB.out hx181_2 :)
            replace hx181_3:=(ct HB.out hx181_3 :)
            replace p181:=eq_true p181;replace q181:=eq_true q181;have p183 : 0 ≤ ((ji11) : Int):=odt qq100;have q183 : (ji11) < (l0.length : Int):=odt qq100;obtain ⟨ad183,e183,hx183_0,hx183_1,hx183_2,hx183_3⟩:=at_T49 HR0.out (ji11) p183 q183;have hw183_3:=hx183_3;have hw183_2:=hx183_2;have hw183_1:=hx183_1;have hw183_0:=hx183_0;obtain rfl : ad177 = ad183:=(by injection e183)
            replace hx183_0:=(ct HB.out hx183_0 :)
            replace hx183_1:=(ct HB.out hx183_1 :)
            replace hx183_2:=(ct HB.out hx183_2 :)
            replace hx183_3:=(ct HB.out hx183_3 :)
            replace p183:=eq_true p183;replace q183:=eq_true q183;have p184 : 0 ≤ (x3_1 : Int):=odt qq100;have q184 : x3_1 < (l0.length : Int):=odt qq100;obtain ⟨ad184,e184,hx184_0,hx184_1,hx184_2,hx184_3⟩:=at_T49 HR0.out x3_1 p184 q184;have hw184_3:=hx184_3;have hw184_2:=hx184_2;have hw184_1:=hx184_1;have hw184_0:=hx184_0;obtain rfl : ad177 = ad184:=(by injection e184)
            replace hx184_0:=(ct HB.out hx184_0 :)
            replace hx184_1:=(ct HB.out hx184_1 :)
            replace hx184_2:=(ct HB.out hx184_2 :)
            replace hx184_3:=(ct HB.out hx184_3 :)
            replace p184:=eq_true p184;replace q184:=eq_true q184;refine start_ (n:=43) (S:=fun w' => w'.cell? (ad177.add ((x3_1).toNat * 4)) = some (.int .i64 ((rd_T49 l0 x3_1).f0)) ∧ w'.cell? ⟨(ad177.add ((x3_1).toNat * 4)).block,(ad177.add ((x3_1).toNat * 4)).off + 1,none⟩ = some (.int .i64 ((rd_T49 l0 x3_1).f1)) ∧ w'.cell? ⟨(ad177.add ((x3_1).toNat * 4)).block,(ad177.add ((x3_1).toNat * 4)).off + 2,none⟩ = some (.int .i64 ((rd_T49 l0 x3_1).f2)) ∧ w'.cell? ⟨(ad177.add ((x3_1).toNat * 4)).block,(ad177.add ((x3_1).toNat * 4)).off + 3,none⟩ = some (.bool ((rd_T49 l0 x3_1).f3)) ∧ w'.cell? (ad177.add ((x3_1).toNat * 4)) = some (.int .i64 ((rd_T49 l0 x3_1).f0)) ∧ w'.cell? ⟨(ad177.add ((x3_1).toNat * 4)).block,(ad177.add ((x3_1).toNat * 4)).off + 1,none⟩ = some (.int .i64 ((rd_T49 l0 x3_1).f1)) ∧ w'.cell? ⟨(ad177.add ((x3_1).toNat * 4)).block,(ad177.add ((x3_1).toNat * 4)).off + 2,none⟩ = some (.int .i64 ((rd_T49 l0 x3_1).f2)) ∧ w'.cell? ⟨(ad177.add ((x3_1).toNat * 4)).block,(ad177.add ((x3_1).toNat * 4)).off + 3,none⟩ = some (.bool ((rd_T49 l0 x3_1).f3)) ∧ w'.cell? (ad177.add ((x3_1).toNat * 4)) = some (.int .i64 ((rd_T49 l0 x3_1).f0)) ∧ w'.cell? ⟨(ad177.add ((x3_1).toNat * 4)).block,(ad177.add ((x3_1).toNat * 4)).off + 1,none⟩ = some (.int .i64 ((rd_T49 l0 x3_1).f1)) ∧ w'.cell? ⟨(ad177.add ((x3_1).toNat * 4)).block,(ad177.add ((x3_1).toNat * 4)).off + 2,none⟩ = some (.int .i64 ((rd_T49 l0 x3_1).f2)) ∧ w'.cell? ⟨(ad177.add ((x3_1).toNat * 4)).block,(ad177.add ((x3_1).toNat * 4)).off + 3,none⟩ = some (.bool ((rd_T49 l0 x3_1).f3)) ∧ w'.cell? (ad177.add (((ji11)).toNat * 4)) = some (.int .i64 ((rd_T49 l0 (ji11)).f0)) ∧ w'.cell? ⟨(ad177.add (((ji11)).toNat * 4)).block,(ad177.add (((ji11)).toNat * 4)).off + 1,none⟩ = some (.int .i64 ((rd_T49 l0 (ji11)).f1)) ∧ w'.cell? ⟨(ad177.add (((ji11)).toNat * 4)).block,(ad177.add (((ji11)).toNat * 4)).off + 2,none⟩ = some (.int .i64 ((rd_T49 l0 (ji11)).f2)) ∧ w'.cell? ⟨(ad177.add (((ji11)).toNat * 4)).block,(ad177.add (((ji11)).toNat * 4)).off + 3,none⟩ = some (.bool ((rd_T49 l0 (ji11)).f3)) ∧ w'.cell? (ad177.add ((x3_1).toNat * 4)) = some (.int .i64 ((rd_T49 l0 x3_1).f0)) ∧ w'.cell? ⟨(ad177.add ((x3_1).toNat * 4)).block,(ad177.add ((x3_1).toNat * 4)).off + 1,none⟩ = some (.int .i64 ((rd_T49 l0 x3_1).f1)) ∧ w'.cell? ⟨(ad177.add ((x3_1).toNat * 4)).block,(ad177.add ((x3_1).toNat * 4)).off + 2,none⟩ = some (.int .i64 ((rd_T49 l0 x3_1).f2)) ∧ w'.cell? ⟨(ad177.add ((x3_1).toNat * 4)).block,(ad177.add ((x3_1).toNat * 4)).off + 3,none⟩ = some (.bool ((rd_T49 l0 x3_1).f3))) (ds:=[]) m0_5 (by kernel_rfl) rfl rfl ⟨(ct HB.out hw177_0 :),(ct HB.out hw177_1 :),(ct HB.out hw177_2 :),(ct HB.out hw177_3 :),(ct HB.out hw179_0 :),(ct HB.out hw179_1 :),(ct HB.out hw179_2 :),(ct HB.out hw179_3 :),(ct HB.out hw181_0 :),(ct HB.out hw181_1 :),(ct HB.out hw181_2 :),(ct HB.out hw181_3 :),(ct HB.out hw183_0 :),(ct HB.out hw183_1 :),(ct HB.out hw183_2 :),(ct HB.out hw183_3 :),(ct HB.out hw184_0 :),(ct HB.out hw184_1 :),(ct HB.out hw184_2 :),(ct HB.out hw184_3 :)⟩ (fun hHeld => ?_);refine with_tabW spec_AreCrew.tab4 spec_AreCrew.bits4 (fun HT_ HW_ => ?_)
            generalize wr.drew = w16 at HB hx177_0 hx177_1 hx177_2 hx177_3 hx179_0 hx179_1 hx179_2 hx179_3 hx181_0 hx181_1 hx181_2 hx181_3 hx183_0 hx183_1 hx183_2 hx183_3 hx184_0 hx184_1 hx184_2 hx184_3 hHeld ⊢
            refine pV (i:=0) (N:=some 10) m1_5 rfl rfl qT ?_
            refine pV (i:=1) (N:=some 11) m2_5 rfl rfl qT ?_
            refine pV (i:=2) (N:=some 12) m3_5 rfl rfl qT ?_
            refine pV (i:=3) (N:=some 13) m4_5 rfl rfl qT ?_
            refine take_ (i:=4) (N:=some 14) (v:=?_) (a':=?_) m5_5 rfl rfl (take_ofW HT_.out HW_.out (by kernel_rfl)) (fun _ _ _ h => h) (Or.inl ⟨by rfl,?_⟩) hHeld ?_ ?_;rotate_left
            ·rintro w' ⟨s0,s1,s2,s3,s4,s5,s6,s7,s8,s9,s10,s11,s12,s13,s14,s15,s16,s17,s18,s19⟩
             go_simp;with_reducible rfl
            rotate_left
            ·simp only [Act.put,sA,s0,s1,i64_w,i32_w];rfl
            refine one_ (i:=5) (N:=some 15) m6_5 rfl rfl (one_of HT_.out (by kernel_rfl)) (by decide) (fun K hK => ?_);refine goes_ Try.func47 (by kernel_rfl) rfl #[.int .i64 ((rd_T49 l0 x3_1).f0),.int .i64 1,.int .i64 99] (by rfl) rfl rfl qq60 ?_;with_reducible refine (spec_l1In.calls ((rd_T49 l0 x3_1).f0) 1 99 true _ A4.out).mono ?_
            rintro e w' ⟨rfl,⟨nd,rfl⟩⟩
            refine ⟨_,rfl,?_⟩;refine hK.out _ _ ⟨(ct HB.out hw177_0 :),(ct HB.out hw177_1 :),(ct HB.out hw177_2 :),(ct HB.out hw177_3 :),(ct HB.out hw179_0 :),(ct HB.out hw179_1 :),(ct HB.out hw179_2 :),(ct HB.out hw179_3 :),(ct HB.out hw181_0 :),(ct HB.out hw181_1 :),(ct HB.out hw181_2 :),(ct HB.out hw181_3 :),(ct HB.out hw183_0 :),(ct HB.out hw183_1 :),(ct HB.out hw183_2 :),(ct HB.out hw183_3 :),(ct HB.out hw184_0 :),(ct HB.out hw184_1 :),(ct HB.out hw184_2 :),(ct HB.out hw184_3 :)⟩ (fun hHeld => ?_);clear hK K;refine norm_ (a':=?_) ?_ ?_;rotate_left
            ·show Act.put _ (some 15) _ = _
             simp only [Act.put,sA,s0,s1,i64_w,i32_w];rfl
            refine pV (i:=6) (N:=some 16) m7_5 rfl rfl qT ?_
            refine pV (i:=7) (N:=some 17) m8_5 rfl rfl qT ?_
            refine pV (i:=8) (N:=some 18) m9_5 rfl rfl qT ?_
            refine pV (i:=9) (N:=some 19) m10_5 rfl rfl qT ?_
            refine pV (i:=10) (N:=some 20) m11_5 rfl rfl qT ?_
            refine pV (i:=11) (N:=some 21) m12_5 rfl rfl qT ?_
            refine take_ (i:=12) (N:=some 22) (v:=?_) (a':=?_) m13_5 rfl rfl (take_ofW HT_.out HW_.out (by kernel_rfl)) (fun _ _ _ h => h) (Or.inl ⟨by rfl,?_⟩) hHeld ?_ ?_;rotate_left
            ·rintro w' ⟨s0,s1,s2,s3,s4,s5,s6,s7,s8,s9,s10,s11,s12,s13,s14,s15,s16,s17,s18,s19⟩
             go_simp;with_reducible rfl
            rotate_left
            ·simp only [Act.put,sA,s0,s1,i64_w,i32_w];rfl
            refine one_ (i:=13) (N:=some 23) m14_5 rfl rfl (one_of HT_.out (by kernel_rfl)) (by decide) (fun K hK => ?_);refine goes_ Try.func47 (by kernel_rfl) rfl #[.int .i64 ((rd_T49 l0 x3_1).f1),.int .i64 0,.int .i64 100] (by rfl) rfl rfl qq60 ?_;with_reducible refine (spec_l1In.calls ((rd_T49 l0 x3_1).f1) 0 100 true _ A6.out).mono ?_
            rintro e w' ⟨rfl,⟨nd,rfl⟩⟩
            refine ⟨_,rfl,?_⟩;refine hK.out _ _ ⟨(ct HB.out hw177_0 :),(ct HB.out hw177_1 :),(ct HB.out hw177_2 :),(ct HB.out hw177_3 :),(ct HB.out hw179_0 :),(ct HB.out hw179_1 :),(ct HB.out hw179_2 :),(ct HB.out hw179_3 :),(ct HB.out hw181_0 :),(ct HB.out hw181_1 :),(ct HB.out hw181_2 :),(ct HB.out hw181_3 :),(ct HB.out hw183_0 :),(ct HB.out hw183_1 :),(ct HB.out hw183_2 :),(ct HB.out hw183_3 :),(ct HB.out hw184_0 :),(ct HB.out hw184_1 :),(ct HB.out hw184_2 :),(ct HB.out hw184_3 :)⟩ (fun hHeld => ?_);clear hK K;refine norm_ (a':=?_) ?_ ?_;rotate_left
            ·show Act.put _ (some 23) _ = _
             simp only [Act.put,sA,s0,s1,i64_w,i32_w];rfl
            refine pV (i:=14) (N:=some 24) m15_5 rfl rfl qT ?_
            refine pV (i:=15) (N:=some 25) m16_5 rfl rfl qT ?_
            refine pV (i:=16) (N:=some 26) m17_5 rfl rfl qT ?_
            refine pV (i:=17) (N:=some 27) m18_5 rfl rfl qT ?_
            refine pV (i:=18) (N:=some 28) m19_5 rfl rfl qT ?_
            refine pV (i:=19) (N:=some 29) m20_5 rfl rfl qT ?_
            refine pV (i:=20) (N:=some 30) m21_5 rfl rfl qT ?_
            refine take_ (i:=21) (N:=some 31) (v:=?_) (a':=?_) m22_5 rfl rfl (take_ofW HT_.out HW_.out (by kernel_rfl)) (fun _ _ _ h => h) (Or.inl ⟨by rfl,?_⟩) hHeld ?_ ?_;rotate_left
            ·rintro w' ⟨s0,s1,s2,s3,s4,s5,s6,s7,s8,s9,s10,s11,s12,s13,s14,s15,s16,s17,s18,s19⟩
             go_simp;with_reducible rfl
            rotate_left
            ·simp only [Act.put,sA,s0,s1,i64_w,i32_w];rfl
            refine one_ (i:=22) (N:=some 32) m23_5 rfl rfl (one_of HT_.out (by kernel_rfl)) (by decide) (fun K hK => ?_);refine goes_ Try.func47 (by kernel_rfl) rfl #[.int .i64 ((rd_T49 l0 x3_1).f2),.int .i64 1,.int .i64 10] (by rfl) rfl rfl qq60 ?_;with_reducible refine (spec_l1In.calls ((rd_T49 l0 x3_1).f2) 1 10 true _ A8.out).mono ?_
            rintro e w' ⟨rfl,⟨nd,rfl⟩⟩
            refine ⟨_,rfl,?_⟩;refine hK.out _ _ ⟨(ct HB.out hw177_0 :),(ct HB.out hw177_1 :),(ct HB.out hw177_2 :),(ct HB.out hw177_3 :),(ct HB.out hw179_0 :),(ct HB.out hw179_1 :),(ct HB.out hw179_2 :),(ct HB.out hw179_3 :),(ct HB.out hw181_0 :),(ct HB.out hw181_1 :),(ct HB.out hw181_2 :),(ct HB.out hw181_3 :),(ct HB.out hw183_0 :),(ct HB.out hw183_1 :),(ct HB.out hw183_2 :),(ct HB.out hw183_3 :),(ct HB.out hw184_0 :),(ct HB.out hw184_1 :),(ct HB.out hw184_2 :),(ct HB.out hw184_3 :)⟩ (fun hHeld => ?_);clear hK K;refine norm_ (a':=?_) ?_ ?_;rotate_left
            ·show Act.put _ (some 32) _ = _
             simp only [Act.put,sA,s0,s1,i64_w,i32_w];rfl
            refine pV (i:=23) (N:=some 33) m24_5 rfl rfl qT ?_
            refine pV (i:=24) (N:=some 34) m25_5 rfl rfl qT ?_
            refine pV (i:=25) (N:=some 35) m26_5 rfl rfl qT ?_
            refine pV (i:=26) (N:=some 36) m27_5 rfl rfl qT ?_
            refine pV (i:=27) (N:=some 37) m28_5 rfl rfl qT ?_
            refine pV (i:=28) (N:=some 38) m29_5 rfl rfl qT ?_
            refine pV (i:=29) (N:=some 39) m30_5 rfl rfl qT ?_
            refine pV (i:=30) (N:=some 40) m31_5 rfl rfl qT ?_
            refine pV (i:=31) (N:=some 41) m32_5 rfl rfl qT ?_
            refine pV (i:=32) (N:=some 42) m33_5 rfl rfl qT ?_
            refine pV (i:=33) (N:=some 43) m34_5 rfl rfl qT ?_
            refine pV (i:=35) (N:=some 45) m35_5 rfl rfl qT ?_
            refine pV (i:=36) (N:=some 46) m36_5 rfl rfl qT ?_
            refine pV (i:=37) (N:=some 47) m37_5 rfl rfl qT ?_
            refine pV (i:=38) (N:=some 48) m38_5 rfl rfl qT ?_
            refine take_ (i:=34) (N:=some 44) (v:=?_) (a':=?_) m39_5 rfl rfl (take_ofW HT_.out HW_.out (by kernel_rfl)) (fun _ _ _ h => h) (Or.inl ⟨by rfl,?_⟩) hHeld ?_ ?_;rotate_left
            ·rintro w' ⟨s0,s1,s2,s3,s4,s5,s6,s7,s8,s9,s10,s11,s12,s13,s14,s15,s16,s17,s18,s19⟩
             go_simp;with_reducible rfl
            rotate_left
            ·simp only [Act.put,sA,s0,s1,i64_w,i32_w];rfl
            refine take_ (i:=39) (N:=some 49) (v:=?_) (a':=?_) m40_5 rfl rfl (take_ofW HT_.out HW_.out (by kernel_rfl)) (fun _ _ _ h => h) (Or.inl ⟨by rfl,?_⟩) hHeld ?_ ?_;rotate_left
            ·rintro w' ⟨s0,s1,s2,s3,s4,s5,s6,s7,s8,s9,s10,s11,s12,s13,s14,s15,s16,s17,s18,s19⟩
             go_simp;with_reducible rfl
            rotate_left
            ·simp only [Act.put,sA,s0,s1,i64_w,i32_w];rfl
            refine pV (i:=40) (N:=some 50) m41_5 rfl rfl qT ?_
            refine pV (i:=41) (N:=some 51) m42_5 rfl rfl qT ?_
            refine pV (i:=42) (N:=some 52) m43_5 rfl rfl qT ?_
            refine done_ (done_of HT_.out (by kernel_rfl)) ?_
            try go_wp2
            go_roundg k1
            case measure => have:=HK1.out;omega
            case rel => exact ⟨(wrap64 (x3_1 + 1)),qq101,H',⟨qq108⟩,⟨qq71⟩⟩
          ·rw [if_neg c13] at H;exact absurd H (by simp)
         ·rw [if_neg c12] at H;exact absurd H (by simp)
        ·rw [if_neg c10] at H;have c10b0 : decide (0 < x3_1) = false:=decide_eq_false c10;clear c10;have H':=am H;clear H
         try go_wp2
         replace HB:=am qq134;have p177 : 0 ≤ (x3_1 : Int):=odt qq100;have q177 : x3_1 < (l0.length : Int):=odt qq100;obtain ⟨ad177,e177,hx177_0,hx177_1,hx177_2,hx177_3⟩:=at_T49 HR0.out x3_1 p177 q177;have hw177_3:=hx177_3;have hw177_2:=hx177_2;have hw177_1:=hx177_1;have hw177_0:=hx177_0
         cases e177
         replace hx177_0:=(ct HB.out hx177_0 :)
         replace hx177_1:=(ct HB.out hx177_1 :)
         replace hx177_2:=(ct HB.out hx177_2 :)
         replace hx177_3:=(ct HB.out hx177_3 :)
         replace p177:=eq_true p177;replace q177:=eq_true q177;have p179 : 0 ≤ (x3_1 : Int):=odt qq100;have q179 : x3_1 < (l0.length : Int):=odt qq100;obtain ⟨ad179,e179,hx179_0,hx179_1,hx179_2,hx179_3⟩:=at_T49 HR0.out x3_1 p179 q179;have hw179_3:=hx179_3;have hw179_2:=hx179_2;have hw179_1:=hx179_1;have hw179_0:=hx179_0;obtain rfl : ad177 = ad179:=(by injection e179)
         replace hx179_0:=(ct HB.out hx179_0 :)
         replace hx179_1:=(ct HB.out hx179_1 :)
         replace hx179_2:=(ct HB.out hx179_2 :)
         replace hx179_3:=(ct HB.out hx179_3 :)
         replace p179:=eq_true p179;replace q179:=eq_true q179;have p181 : 0 ≤ (x3_1 : Int):=odt qq100;have q181 : x3_1 < (l0.length : Int):=odt qq100;obtain ⟨ad181,e181,hx181_0,hx181_1,hx181_2,hx181_3⟩:=at_T49 HR0.out x3_1 p181 q181;have hw181_3:=hx181_3;have hw181_2:=hx181_2;have hw181_1:=hx181_1;have hw181_0:=hx181_0;obtain rfl : ad177 = ad181:=(by injection e181)
         replace hx181_0:=(ct HB.out hx181_0 :)
         replace hx181_1:=(ct HB.out hx181_1 :)
         replace hx181_2:=(ct HB.out hx181_2 :)
         replace hx181_3:=(ct HB.out hx181_3 :)
         replace p181:=eq_true p181;replace q181:=eq_true q181;refine start_ (n:=43) (S:=fun w' => w'.cell? (ad177.add ((x3_1).toNat * 4)) = some (.int .i64 ((rd_T49 l0 x3_1).f0)) ∧ w'.cell? ⟨(ad177.add ((x3_1).toNat * 4)).block,(ad177.add ((x3_1).toNat * 4)).off + 1,none⟩ = some (.int .i64 ((rd_T49 l0 x3_1).f1)) ∧ w'.cell? ⟨(ad177.add ((x3_1).toNat * 4)).block,(ad177.add ((x3_1).toNat * 4)).off + 2,none⟩ = some (.int .i64 ((rd_T49 l0 x3_1).f2)) ∧ w'.cell? ⟨(ad177.add ((x3_1).toNat * 4)).block,(ad177.add ((x3_1).toNat * 4)).off + 3,none⟩ = some (.bool ((rd_T49 l0 x3_1).f3)) ∧ w'.cell? (ad177.add ((x3_1).toNat * 4)) = some (.int .i64 ((rd_T49 l0 x3_1).f0)) ∧ w'.cell? ⟨(ad177.add ((x3_1).toNat * 4)).block,(ad177.add ((x3_1).toNat * 4)).off + 1,none⟩ = some (.int .i64 ((rd_T49 l0 x3_1).f1)) ∧ w'.cell? ⟨(ad177.add ((x3_1).toNat * 4)).block,(ad177.add ((x3_1).toNat * 4)).off + 2,none⟩ = some (.int .i64 ((rd_T49 l0 x3_1).f2)) ∧ w'.cell? ⟨(ad177.add ((x3_1).toNat * 4)).block,(ad177.add ((x3_1).toNat * 4)).off + 3,none⟩ = some (.bool ((rd_T49 l0 x3_1).f3)) ∧ w'.cell? (ad177.add ((x3_1).toNat * 4)) = some (.int .i64 ((rd_T49 l0 x3_1).f0)) ∧ w'.cell? ⟨(ad177.add ((x3_1).toNat * 4)).block,(ad177.add ((x3_1).toNat * 4)).off + 1,none⟩ = some (.int .i64 ((rd_T49 l0 x3_1).f1)) ∧ w'.cell? ⟨(ad177.add ((x3_1).toNat * 4)).block,(ad177.add ((x3_1).toNat * 4)).off + 2,none⟩ = some (.int .i64 ((rd_T49 l0 x3_1).f2)) ∧ w'.cell? ⟨(ad177.add ((x3_1).toNat * 4)).block,(ad177.add ((x3_1).toNat * 4)).off + 3,none⟩ = some (.bool ((rd_T49 l0 x3_1).f3))) (ds:=[]) m0_5 (by kernel_rfl) rfl rfl ⟨(ct HB.out hw177_0 :),(ct HB.out hw177_1 :),(ct HB.out hw177_2 :),(ct HB.out hw177_3 :),(ct HB.out hw179_0 :),(ct HB.out hw179_1 :),(ct HB.out hw179_2 :),(ct HB.out hw179_3 :),(ct HB.out hw181_0 :),(ct HB.out hw181_1 :),(ct HB.out hw181_2 :),(ct HB.out hw181_3 :)⟩ (fun hHeld => ?_);refine with_tabW spec_AreCrew.tab4 spec_AreCrew.bits4 (fun HT_ HW_ => ?_)
         generalize wr.drew = w17 at HB hx177_0 hx177_1 hx177_2 hx177_3 hx179_0 hx179_1 hx179_2 hx179_3 hx181_0 hx181_1 hx181_2 hx181_3 hHeld ⊢
         refine pV (i:=0) (N:=some 10) m1_5 rfl rfl qT ?_
         refine pV (i:=1) (N:=some 11) m2_5 rfl rfl qT ?_
         refine pV (i:=2) (N:=some 12) m3_5 rfl rfl qT ?_
         refine pV (i:=3) (N:=some 13) m4_5 rfl rfl qT ?_
         refine take_ (i:=4) (N:=some 14) (v:=?_) (a':=?_) m5_5 rfl rfl (take_ofW HT_.out HW_.out (by kernel_rfl)) (fun _ _ _ h => h) (Or.inl ⟨by rfl,?_⟩) hHeld ?_ ?_;rotate_left
         ·rintro w' ⟨s0,s1,s2,s3,s4,s5,s6,s7,s8,s9,s10,s11⟩
          go_simp;with_reducible rfl
         rotate_left
         ·simp only [Act.put,sA,s0,s1,i64_w,i32_w];rfl
         refine one_ (i:=5) (N:=some 15) m6_5 rfl rfl (one_of HT_.out (by kernel_rfl)) (by decide) (fun K hK => ?_);refine goes_ Try.func47 (by kernel_rfl) rfl #[.int .i64 ((rd_T49 l0 x3_1).f0),.int .i64 1,.int .i64 99] (by rfl) rfl rfl qq60 ?_;with_reducible refine (spec_l1In.calls ((rd_T49 l0 x3_1).f0) 1 99 true _ A4.out).mono ?_
         rintro e w' ⟨rfl,⟨nd,rfl⟩⟩
         refine ⟨_,rfl,?_⟩;refine hK.out _ _ ⟨(ct HB.out hw177_0 :),(ct HB.out hw177_1 :),(ct HB.out hw177_2 :),(ct HB.out hw177_3 :),(ct HB.out hw179_0 :),(ct HB.out hw179_1 :),(ct HB.out hw179_2 :),(ct HB.out hw179_3 :),(ct HB.out hw181_0 :),(ct HB.out hw181_1 :),(ct HB.out hw181_2 :),(ct HB.out hw181_3 :)⟩ (fun hHeld => ?_);clear hK K;refine norm_ (a':=?_) ?_ ?_;rotate_left
         ·show Act.put _ (some 15) _ = _
          simp only [Act.put,sA,s0,s1,i64_w,i32_w];rfl
         refine pV (i:=6) (N:=some 16) m7_5 rfl rfl qT ?_
         refine pV (i:=7) (N:=some 17) m8_5 rfl rfl qT ?_
         refine pV (i:=8) (N:=some 18) m9_5 rfl rfl qT ?_
         refine pV (i:=9) (N:=some 19) m10_5 rfl rfl qT ?_
         refine pV (i:=10) (N:=some 20) m11_5 rfl rfl qT ?_
         refine pV (i:=11) (N:=some 21) m12_5 rfl rfl qT ?_
         refine take_ (i:=12) (N:=some 22) (v:=?_) (a':=?_) m13_5 rfl rfl (take_ofW HT_.out HW_.out (by kernel_rfl)) (fun _ _ _ h => h) (Or.inl ⟨by rfl,?_⟩) hHeld ?_ ?_;rotate_left
         ·rintro w' ⟨s0,s1,s2,s3,s4,s5,s6,s7,s8,s9,s10,s11⟩
          go_simp;with_reducible rfl
         rotate_left
         ·simp only [Act.put,sA,s0,s1,i64_w,i32_w];rfl
         refine one_ (i:=13) (N:=some 23) m14_5 rfl rfl (one_of HT_.out (by kernel_rfl)) (by decide) (fun K hK => ?_);refine goes_ Try.func47 (by kernel_rfl) rfl #[.int .i64 ((rd_T49 l0 x3_1).f1),.int .i64 0,.int .i64 100] (by rfl) rfl rfl qq60 ?_;with_reducible refine (spec_l1In.calls ((rd_T49 l0 x3_1).f1) 0 100 true _ A6.out).mono ?_
         rintro e w' ⟨rfl,⟨nd,rfl⟩⟩
         refine ⟨_,rfl,?_⟩;refine hK.out _ _ ⟨(ct HB.out hw177_0 :),(ct HB.out hw177_1 :),(ct HB.out hw177_2 :),(ct HB.out hw177_3 :),(ct HB.out hw179_0 :),(ct HB.out hw179_1 :),(ct HB.out hw179_2 :),(ct HB.out hw179_3 :),(ct HB.out hw181_0 :),(ct HB.out hw181_1 :),(ct HB.out hw181_2 :),(ct HB.out hw181_3 :)⟩ (fun hHeld => ?_);clear hK K;refine norm_ (a':=?_) ?_ ?_;rotate_left
         ·show Act.put _ (some 23) _ = _
          simp only [Act.put,sA,s0,s1,i64_w,i32_w];rfl
         refine pV (i:=14) (N:=some 24) m15_5 rfl rfl qT ?_
         refine pV (i:=15) (N:=some 25) m16_5 rfl rfl qT ?_
         refine pV (i:=16) (N:=some 26) m17_5 rfl rfl qT ?_
         refine pV (i:=17) (N:=some 27) m18_5 rfl rfl qT ?_
         refine pV (i:=18) (N:=some 28) m19_5 rfl rfl qT ?_
         refine pV (i:=19) (N:=some 29) m20_5 rfl rfl qT ?_
         refine pV (i:=20) (N:=some 30) m21_5 rfl rfl qT ?_
         refine take_ (i:=21) (N:=some 31) (v:=?_) (a':=?_) m22_5 rfl rfl (take_ofW HT_.out HW_.out (by kernel_rfl)) (fun _ _ _ h => h) (Or.inl ⟨by rfl,?_⟩) hHeld ?_ ?_;rotate_left
         ·rintro w' ⟨s0,s1,s2,s3,s4,s5,s6,s7,s8,s9,s10,s11⟩
          go_simp;with_reducible rfl
         rotate_left
         ·simp only [Act.put,sA,s0,s1,i64_w,i32_w];rfl
         refine one_ (i:=22) (N:=some 32) m23_5 rfl rfl (one_of HT_.out (by kernel_rfl)) (by decide) (fun K hK => ?_);refine goes_ Try.func47 (by kernel_rfl) rfl #[.int .i64 ((rd_T49 l0 x3_1).f2),.int .i64 1,.int .i64 10] (by rfl) rfl rfl qq60 ?_;with_reducible refine (spec_l1In.calls ((rd_T49 l0 x3_1).f2) 1 10 true _ A8.out).mono ?_
         rintro e w' ⟨rfl,⟨nd,rfl⟩⟩
         refine ⟨_,rfl,?_⟩;refine hK.out _ _ ⟨(ct HB.out hw177_0 :),(ct HB.out hw177_1 :),(ct HB.out hw177_2 :),(ct HB.out hw177_3 :),(ct HB.out hw179_0 :),(ct HB.out hw179_1 :),(ct HB.out hw179_2 :),(ct HB.out hw179_3 :),(ct HB.out hw181_0 :),(ct HB.out hw181_1 :),(ct HB.out hw181_2 :),(ct HB.out hw181_3 :)⟩ (fun hHeld => ?_);clear hK K;refine norm_ (a':=?_) ?_ ?_;rotate_left
         ·show Act.put _ (some 32) _ = _
          simp only [Act.put,sA,s0,s1,i64_w,i32_w];rfl
         refine pV (i:=23) (N:=some 33) m24_5 rfl rfl qT ?_
         refine pV (i:=24) (N:=some 34) m25_5 rfl rfl qT ?_
         refine pV (i:=25) (N:=some 35) m26_5 rfl rfl qT ?_
         refine pV (i:=26) (N:=some 36) m27_5 rfl rfl qT ?_
         refine pV (i:=27) (N:=some 37) m28_5 rfl rfl qT ?_
         refine pV (i:=28) (N:=some 38) m29_5 rfl rfl qT ?_
         refine pW (i:=29) (N:=some 39) m30_5 rfl rfl qT ?_
         refine pW (i:=30) (N:=some 40) m31_5 rfl rfl qT ?_
         refine pW (i:=31) (N:=some 41) m32_5 rfl rfl qT ?_
         refine pW (i:=32) (N:=some 42) m33_5 rfl rfl qT ?_
         refine pW (i:=33) (N:=some 43) m34_5 rfl rfl qT ?_
         refine pW (i:=34) (N:=some 44) m44_5 rfl rfl qT ?_
         refine pW (i:=35) (N:=some 45) m45_5 rfl rfl qT ?_
         refine pW (i:=36) (N:=some 46) m46_5 rfl rfl qT ?_
         refine pW (i:=37) (N:=some 47) m47_5 rfl rfl qT ?_
         refine pW (i:=38) (N:=some 48) m39_5 rfl rfl qT ?_
         refine pW (i:=39) (N:=some 49) m40_5 rfl rfl qT ?_
         refine pW (i:=40) (N:=some 50) m41_5 rfl rfl qT ?_
         refine pV (i:=41) (N:=some 51) m42_5 rfl rfl qT ?_
         refine pV (i:=42) (N:=some 52) m43_5 rfl rfl qT ?_
         refine done_ (done_of HT_.out (by kernel_rfl)) ?_
         try go_wp2
         go_roundg k1
         case measure => have:=HK1.out;omega
         case rel => exact ⟨(wrap64 (x3_1 + 1)),qq101,H',⟨qq108⟩,⟨qq71⟩⟩
       ·replace c9:=Bool.eq_false_iff.mpr c9;subst c9;have H1 : (some false) = some r:=by rw [if_neg (show ¬ (false = true) by decide)] at H;exact H
        clear H;have H:=H1;clear H1;obtain rfl:=Option.some.inj H
        try go_wp2
        replace HB:=am qq134;have p177 : 0 ≤ (x3_1 : Int):=odt qq100;have q177 : x3_1 < (l0.length : Int):=odt qq100;obtain ⟨ad177,e177,hx177_0,hx177_1,hx177_2,hx177_3⟩:=at_T49 HR0.out x3_1 p177 q177;have hw177_3:=hx177_3;have hw177_2:=hx177_2;have hw177_1:=hx177_1;have hw177_0:=hx177_0
        cases e177
        replace hx177_0:=(ct HB.out hx177_0 :)
        replace hx177_1:=(ct HB.out hx177_1 :)
        replace hx177_2:=(ct HB.out hx177_2 :)
        replace hx177_3:=(ct HB.out hx177_3 :)
        replace p177:=eq_true p177;replace q177:=eq_true q177;have p179 : 0 ≤ (x3_1 : Int):=odt qq100;have q179 : x3_1 < (l0.length : Int):=odt qq100;obtain ⟨ad179,e179,hx179_0,hx179_1,hx179_2,hx179_3⟩:=at_T49 HR0.out x3_1 p179 q179;have hw179_3:=hx179_3;have hw179_2:=hx179_2;have hw179_1:=hx179_1;have hw179_0:=hx179_0;obtain rfl : ad177 = ad179:=(by injection e179)
        replace hx179_0:=(ct HB.out hx179_0 :)
        replace hx179_1:=(ct HB.out hx179_1 :)
        replace hx179_2:=(ct HB.out hx179_2 :)
        replace hx179_3:=(ct HB.out hx179_3 :)
        replace p179:=eq_true p179;replace q179:=eq_true q179;have p181 : 0 ≤ (x3_1 : Int):=odt qq100;have q181 : x3_1 < (l0.length : Int):=odt qq100;obtain ⟨ad181,e181,hx181_0,hx181_1,hx181_2,hx181_3⟩:=at_T49 HR0.out x3_1 p181 q181;have hw181_3:=hx181_3;have hw181_2:=hx181_2;have hw181_1:=hx181_1;have hw181_0:=hx181_0;obtain rfl : ad177 = ad181:=(by injection e181)
        replace hx181_0:=(ct HB.out hx181_0 :)
        replace hx181_1:=(ct HB.out hx181_1 :)
        replace hx181_2:=(ct HB.out hx181_2 :)
        replace hx181_3:=(ct HB.out hx181_3 :)
        replace p181:=eq_true p181;replace q181:=eq_true q181;refine start_ (n:=43) (S:=fun w' => w'.cell? (ad177.add ((x3_1).toNat * 4)) = some (.int .i64 ((rd_T49 l0 x3_1).f0)) ∧ w'.cell? ⟨(ad177.add ((x3_1).toNat * 4)).block,(ad177.add ((x3_1).toNat * 4)).off + 1,none⟩ = some (.int .i64 ((rd_T49 l0 x3_1).f1)) ∧ w'.cell? ⟨(ad177.add ((x3_1).toNat * 4)).block,(ad177.add ((x3_1).toNat * 4)).off + 2,none⟩ = some (.int .i64 ((rd_T49 l0 x3_1).f2)) ∧ w'.cell? ⟨(ad177.add ((x3_1).toNat * 4)).block,(ad177.add ((x3_1).toNat * 4)).off + 3,none⟩ = some (.bool ((rd_T49 l0 x3_1).f3)) ∧ w'.cell? (ad177.add ((x3_1).toNat * 4)) = some (.int .i64 ((rd_T49 l0 x3_1).f0)) ∧ w'.cell? ⟨(ad177.add ((x3_1).toNat * 4)).block,(ad177.add ((x3_1).toNat * 4)).off + 1,none⟩ = some (.int .i64 ((rd_T49 l0 x3_1).f1)) ∧ w'.cell? ⟨(ad177.add ((x3_1).toNat * 4)).block,(ad177.add ((x3_1).toNat * 4)).off + 2,none⟩ = some (.int .i64 ((rd_T49 l0 x3_1).f2)) ∧ w'.cell? ⟨(ad177.add ((x3_1).toNat * 4)).block,(ad177.add ((x3_1).toNat * 4)).off + 3,none⟩ = some (.bool ((rd_T49 l0 x3_1).f3)) ∧ w'.cell? (ad177.add ((x3_1).toNat * 4)) = some (.int .i64 ((rd_T49 l0 x3_1).f0)) ∧ w'.cell? ⟨(ad177.add ((x3_1).toNat * 4)).block,(ad177.add ((x3_1).toNat * 4)).off + 1,none⟩ = some (.int .i64 ((rd_T49 l0 x3_1).f1)) ∧ w'.cell? ⟨(ad177.add ((x3_1).toNat * 4)).block,(ad177.add ((x3_1).toNat * 4)).off + 2,none⟩ = some (.int .i64 ((rd_T49 l0 x3_1).f2)) ∧ w'.cell? ⟨(ad177.add ((x3_1).toNat * 4)).block,(ad177.add ((x3_1).toNat * 4)).off + 3,none⟩ = some (.bool ((rd_T49 l0 x3_1).f3))) (ds:=[]) m0_5 (by kernel_rfl) rfl rfl ⟨(ct HB.out hw177_0 :),(ct HB.out hw177_1 :),(ct HB.out hw177_2 :),(ct HB.out hw177_3 :),(ct HB.out hw179_0 :),(ct HB.out hw179_1 :),(ct HB.out hw179_2 :),(ct HB.out hw179_3 :),(ct HB.out hw181_0 :),(ct HB.out hw181_1 :),(ct HB.out hw181_2 :),(ct HB.out hw181_3 :)⟩ (fun hHeld => ?_);refine with_tabW spec_AreCrew.tab4 spec_AreCrew.bits4 (fun HT_ HW_ => ?_)
        generalize wr.drew = w18 at HB hx177_0 hx177_1 hx177_2 hx177_3 hx179_0 hx179_1 hx179_2 hx179_3 hx181_0 hx181_1 hx181_2 hx181_3 hHeld ⊢
        refine pV (i:=0) (N:=some 10) m1_5 rfl rfl qT ?_
        refine pV (i:=1) (N:=some 11) m2_5 rfl rfl qT ?_
        refine pV (i:=2) (N:=some 12) m3_5 rfl rfl qT ?_
        refine pV (i:=3) (N:=some 13) m4_5 rfl rfl qT ?_
        refine take_ (i:=4) (N:=some 14) (v:=?_) (a':=?_) m5_5 rfl rfl (take_ofW HT_.out HW_.out (by kernel_rfl)) (fun _ _ _ h => h) (Or.inl ⟨by rfl,?_⟩) hHeld ?_ ?_;rotate_left
        ·rintro w' ⟨s0,s1,s2,s3,s4,s5,s6,s7,s8,s9,s10,s11⟩
         go_simp;with_reducible rfl
        rotate_left
        ·simp only [Act.put,sA,s0,s1,i64_w,i32_w];rfl
        refine one_ (i:=5) (N:=some 15) m6_5 rfl rfl (one_of HT_.out (by kernel_rfl)) (by decide) (fun K hK => ?_);refine goes_ Try.func47 (by kernel_rfl) rfl #[.int .i64 ((rd_T49 l0 x3_1).f0),.int .i64 1,.int .i64 99] (by rfl) rfl rfl qq60 ?_;with_reducible refine (spec_l1In.calls ((rd_T49 l0 x3_1).f0) 1 99 true _ A4.out).mono ?_
        rintro e w' ⟨rfl,⟨nd,rfl⟩⟩
        refine ⟨_,rfl,?_⟩;refine hK.out _ _ ⟨(ct HB.out hw177_0 :),(ct HB.out hw177_1 :),(ct HB.out hw177_2 :),(ct HB.out hw177_3 :),(ct HB.out hw179_0 :),(ct HB.out hw179_1 :),(ct HB.out hw179_2 :),(ct HB.out hw179_3 :),(ct HB.out hw181_0 :),(ct HB.out hw181_1 :),(ct HB.out hw181_2 :),(ct HB.out hw181_3 :)⟩ (fun hHeld => ?_);clear hK K;refine norm_ (a':=?_) ?_ ?_;rotate_left
        ·show Act.put _ (some 15) _ = _
         simp only [Act.put,sA,s0,s1,i64_w,i32_w];rfl
        refine pV (i:=6) (N:=some 16) m7_5 rfl rfl qT ?_
        refine pV (i:=7) (N:=some 17) m8_5 rfl rfl qT ?_
        refine pV (i:=8) (N:=some 18) m9_5 rfl rfl qT ?_
        refine pV (i:=9) (N:=some 19) m10_5 rfl rfl qT ?_
        refine pV (i:=10) (N:=some 20) m11_5 rfl rfl qT ?_
        refine pV (i:=11) (N:=some 21) m12_5 rfl rfl qT ?_
        refine take_ (i:=12) (N:=some 22) (v:=?_) (a':=?_) m13_5 rfl rfl (take_ofW HT_.out HW_.out (by kernel_rfl)) (fun _ _ _ h => h) (Or.inl ⟨by rfl,?_⟩) hHeld ?_ ?_;rotate_left
        ·rintro w' ⟨s0,s1,s2,s3,s4,s5,s6,s7,s8,s9,s10,s11⟩
         go_simp;with_reducible rfl
        rotate_left
        ·simp only [Act.put,sA,s0,s1,i64_w,i32_w];rfl
        refine one_ (i:=13) (N:=some 23) m14_5 rfl rfl (one_of HT_.out (by kernel_rfl)) (by decide) (fun K hK => ?_);refine goes_ Try.func47 (by kernel_rfl) rfl #[.int .i64 ((rd_T49 l0 x3_1).f1),.int .i64 0,.int .i64 100] (by rfl) rfl rfl qq60 ?_;with_reducible refine (spec_l1In.calls ((rd_T49 l0 x3_1).f1) 0 100 true _ A6.out).mono ?_
        rintro e w' ⟨rfl,⟨nd,rfl⟩⟩
        refine ⟨_,rfl,?_⟩;refine hK.out _ _ ⟨(ct HB.out hw177_0 :),(ct HB.out hw177_1 :),(ct HB.out hw177_2 :),(ct HB.out hw177_3 :),(ct HB.out hw179_0 :),(ct HB.out hw179_1 :),(ct HB.out hw179_2 :),(ct HB.out hw179_3 :),(ct HB.out hw181_0 :),(ct HB.out hw181_1 :),(ct HB.out hw181_2 :),(ct HB.out hw181_3 :)⟩ (fun hHeld => ?_);clear hK K;refine norm_ (a':=?_) ?_ ?_;rotate_left
        ·show Act.put _ (some 23) _ = _
         simp only [Act.put,sA,s0,s1,i64_w,i32_w];rfl
        refine pV (i:=14) (N:=some 24) m15_5 rfl rfl qT ?_
        refine pV (i:=15) (N:=some 25) m16_5 rfl rfl qT ?_
        refine pV (i:=16) (N:=some 26) m17_5 rfl rfl qT ?_
        refine pV (i:=17) (N:=some 27) m18_5 rfl rfl qT ?_
        refine pV (i:=18) (N:=some 28) m19_5 rfl rfl qT ?_
        refine pV (i:=19) (N:=some 29) m20_5 rfl rfl qT ?_
        refine pV (i:=20) (N:=some 30) m21_5 rfl rfl qT ?_
        refine take_ (i:=21) (N:=some 31) (v:=?_) (a':=?_) m22_5 rfl rfl (take_ofW HT_.out HW_.out (by kernel_rfl)) (fun _ _ _ h => h) (Or.inl ⟨by rfl,?_⟩) hHeld ?_ ?_;rotate_left
        ·rintro w' ⟨s0,s1,s2,s3,s4,s5,s6,s7,s8,s9,s10,s11⟩
         go_simp;with_reducible rfl
        rotate_left
        ·simp only [Act.put,sA,s0,s1,i64_w,i32_w];rfl
        refine one_ (i:=22) (N:=some 32) m23_5 rfl rfl (one_of HT_.out (by kernel_rfl)) (by decide) (fun K hK => ?_);refine goes_ Try.func47 (by kernel_rfl) rfl #[.int .i64 ((rd_T49 l0 x3_1).f2),.int .i64 1,.int .i64 10] (by rfl) rfl rfl qq60 ?_;with_reducible refine (spec_l1In.calls ((rd_T49 l0 x3_1).f2) 1 10 false _ A8.out).mono ?_
        rintro e w' ⟨rfl,⟨nd,rfl⟩⟩
        refine ⟨_,rfl,?_⟩;refine hK.out _ _ ⟨(ct HB.out hw177_0 :),(ct HB.out hw177_1 :),(ct HB.out hw177_2 :),(ct HB.out hw177_3 :),(ct HB.out hw179_0 :),(ct HB.out hw179_1 :),(ct HB.out hw179_2 :),(ct HB.out hw179_3 :),(ct HB.out hw181_0 :),(ct HB.out hw181_1 :),(ct HB.out hw181_2 :),(ct HB.out hw181_3 :)⟩ (fun hHeld => ?_);clear hK K;refine norm_ (a':=?_) ?_ ?_;rotate_left
        ·show Act.put _ (some 32) _ = _
         simp only [Act.put,sA,s0,s1,i64_w,i32_w];rfl
        refine pV (i:=23) (N:=some 33) m24_5 rfl rfl qT ?_
        refine pV (i:=24) (N:=some 34) m25_5 rfl rfl qT ?_
        refine pV (i:=25) (N:=some 35) m26_5 rfl rfl qT ?_
        refine pW (i:=26) (N:=some 36) m27_5 rfl rfl qT ?_
        refine pW (i:=27) (N:=some 37) m28_5 rfl rfl qT ?_
        refine pW (i:=28) (N:=some 38) m29_5 rfl rfl qT ?_
        refine pW (i:=29) (N:=some 39) m30_5 rfl rfl qT ?_
        refine pW (i:=30) (N:=some 40) m31_5 rfl rfl qT ?_
        refine pW (i:=31) (N:=some 41) m32_5 rfl rfl qT ?_
        refine pW (i:=32) (N:=some 42) m33_5 rfl rfl qT ?_
        refine pW (i:=33) (N:=some 43) m34_5 rfl rfl qT ?_
        refine pW (i:=34) (N:=some 44) m44_5 rfl rfl qT ?_
        refine pW (i:=35) (N:=some 45) m45_5 rfl rfl qT ?_
        refine pW (i:=36) (N:=some 46) m46_5 rfl rfl qT ?_
        refine pW (i:=37) (N:=some 47) m47_5 rfl rfl qT ?_
        refine pW (i:=38) (N:=some 48) m39_5 rfl rfl qT ?_
        refine pW (i:=39) (N:=some 49) m40_5 rfl rfl qT ?_
        refine pW (i:=40) (N:=some 50) m41_5 rfl rfl qT ?_
        refine pW (i:=41) (N:=some 51) m42_5 rfl rfl qT ?_
        refine pV (i:=42) (N:=some 52) m43_5 rfl rfl qT ?_
        refine done_ (done_of HT_.out (by kernel_rfl)) ?_
        try go_wp2
        go_ret
        exact ⟨qq89,qq71⟩
      ·replace c7:=Bool.eq_false_iff.mpr c7;subst c7;have H1 : (some false) = some r:=by rw [if_neg (show ¬ (false = true) by decide)] at H;exact H
       clear H;have H:=H1;clear H1;obtain rfl:=Option.some.inj H
       try go_wp2
       replace HB:=am qq134;have p177 : 0 ≤ (x3_1 : Int):=odt qq100;have q177 : x3_1 < (l0.length : Int):=odt qq100;obtain ⟨ad177,e177,hx177_0,hx177_1,hx177_2,hx177_3⟩:=at_T49 HR0.out x3_1 p177 q177;have hw177_3:=hx177_3;have hw177_2:=hx177_2;have hw177_1:=hx177_1;have hw177_0:=hx177_0
       cases e177
       replace hx177_0:=(ct HB.out hx177_0 :)
       replace hx177_1:=(ct HB.out hx177_1 :)
       replace hx177_2:=(ct HB.out hx177_2 :)
       replace hx177_3:=(ct HB.out hx177_3 :)
       replace p177:=eq_true p177;replace q177:=eq_true q177;have p179 : 0 ≤ (x3_1 : Int):=odt qq100;have q179 : x3_1 < (l0.length : Int):=odt qq100;obtain ⟨ad179,e179,hx179_0,hx179_1,hx179_2,hx179_3⟩:=at_T49 HR0.out x3_1 p179 q179;have hw179_3:=hx179_3;have hw179_2:=hx179_2;have hw179_1:=hx179_1;have hw179_0:=hx179_0;obtain rfl : ad177 = ad179:=(by injection e179)
       replace hx179_0:=(ct HB.out hx179_0 :)
       replace hx179_1:=(ct HB.out hx179_1 :)
       replace hx179_2:=(ct HB.out hx179_2 :)
       replace hx179_3:=(ct HB.out hx179_3 :)
       replace p179:=eq_true p179;replace q179:=eq_true q179;refine start_ (n:=43) (S:=fun w' => w'.cell? (ad177.add ((x3_1).toNat * 4)) = some (.int .i64 ((rd_T49 l0 x3_1).f0)) ∧ w'.cell? ⟨(ad177.add ((x3_1).toNat * 4)).block,(ad177.add ((x3_1).toNat * 4)).off + 1,none⟩ = some (.int .i64 ((rd_T49 l0 x3_1).f1)) ∧ w'.cell? ⟨(ad177.add ((x3_1).toNat * 4)).block,(ad177.add ((x3_1).toNat * 4)).off + 2,none⟩ = some (.int .i64 ((rd_T49 l0 x3_1).f2)) ∧ w'.cell? ⟨(ad177.add ((x3_1).toNat * 4)).block,(ad177.add ((x3_1).toNat * 4)).off + 3,none⟩ = some (.bool ((rd_T49 l0 x3_1).f3)) ∧ w'.cell? (ad177.add ((x3_1).toNat * 4)) = some (.int .i64 ((rd_T49 l0 x3_1).f0)) ∧ w'.cell? ⟨(ad177.add ((x3_1).toNat * 4)).block,(ad177.add ((x3_1).toNat * 4)).off + 1,none⟩ = some (.int .i64 ((rd_T49 l0 x3_1).f1)) ∧ w'.cell? ⟨(ad177.add ((x3_1).toNat * 4)).block,(ad177.add ((x3_1).toNat * 4)).off + 2,none⟩ = some (.int .i64 ((rd_T49 l0 x3_1).f2)) ∧ w'.cell? ⟨(ad177.add ((x3_1).toNat * 4)).block,(ad177.add ((x3_1).toNat * 4)).off + 3,none⟩ = some (.bool ((rd_T49 l0 x3_1).f3))) (ds:=[]) m0_5 (by kernel_rfl) rfl rfl ⟨(ct HB.out hw177_0 :),(ct HB.out hw177_1 :),(ct HB.out hw177_2 :),(ct HB.out hw177_3 :),(ct HB.out hw179_0 :),(ct HB.out hw179_1 :),(ct HB.out hw179_2 :),(ct HB.out hw179_3 :)⟩ (fun hHeld => ?_);refine with_tabW spec_AreCrew.tab4 spec_AreCrew.bits4 (fun HT_ HW_ => ?_)
       generalize wr.drew = w19 at HB hx177_0 hx177_1 hx177_2 hx177_3 hx179_0 hx179_1 hx179_2 hx179_3 hHeld ⊢
       refine pV (i:=0) (N:=some 10) m1_5 rfl rfl qT ?_
       refine pV (i:=1) (N:=some 11) m2_5 rfl rfl qT ?_
       refine pV (i:=2) (N:=some 12) m3_5 rfl rfl qT ?_
       refine pV (i:=3) (N:=some 13) m4_5 rfl rfl qT ?_
       refine tV8 (i:=4) (N:=some 14) m5_5 rfl rfl (take_ofW HT_.out HW_.out (by kernel_rfl)) hHeld ?_
       refine one_ (i:=5) (N:=some 15) m6_5 rfl rfl (one_of HT_.out (by kernel_rfl)) (by decide) (fun K hK => ?_);refine goes_ Try.func47 (by kernel_rfl) rfl #[.int .i64 ((rd_T49 l0 x3_1).f0),.int .i64 1,.int .i64 99] (by rfl) rfl rfl qq60 ?_;with_reducible refine (spec_l1In.calls ((rd_T49 l0 x3_1).f0) 1 99 true _ A4.out).mono ?_
       rintro e w' ⟨rfl,⟨nd,rfl⟩⟩
       refine ⟨_,rfl,?_⟩;refine hK.out _ _ ⟨(ct HB.out hw177_0 :),(ct HB.out hw177_1 :),(ct HB.out hw177_2 :),(ct HB.out hw177_3 :),(ct HB.out hw179_0 :),(ct HB.out hw179_1 :),(ct HB.out hw179_2 :),(ct HB.out hw179_3 :)⟩ (fun hHeld => ?_);clear hK K;refine norm_ (a':=?_) ?_ ?_;rotate_left
       ·show Act.put _ (some 15) _ = _
        simp only [Act.put,sA,s0,s1,i64_w,i32_w];rfl
       refine pV (i:=6) (N:=some 16) m7_5 rfl rfl qT ?_
       refine pV (i:=7) (N:=some 17) m8_5 rfl rfl qT ?_
       refine pV (i:=8) (N:=some 18) m9_5 rfl rfl qT ?_
       refine pV (i:=9) (N:=some 19) m10_5 rfl rfl qT ?_
       refine pV (i:=10) (N:=some 20) m11_5 rfl rfl qT ?_
       refine pV (i:=11) (N:=some 21) m12_5 rfl rfl qT ?_
       refine tV8 (i:=12) (N:=some 22) m13_5 rfl rfl (take_ofW HT_.out HW_.out (by kernel_rfl)) hHeld ?_
       refine one_ (i:=13) (N:=some 23) m14_5 rfl rfl (one_of HT_.out (by kernel_rfl)) (by decide) (fun K hK => ?_);refine goes_ Try.func47 (by kernel_rfl) rfl #[.int .i64 ((rd_T49 l0 x3_1).f1),.int .i64 0,.int .i64 100] (by rfl) rfl rfl qq60 ?_;with_reducible refine (spec_l1In.calls ((rd_T49 l0 x3_1).f1) 0 100 false _ A6.out).mono ?_
       rintro e w' ⟨rfl,⟨nd,rfl⟩⟩
       refine ⟨_,rfl,?_⟩;refine hK.out _ _ ⟨(ct HB.out hw177_0 :),(ct HB.out hw177_1 :),(ct HB.out hw177_2 :),(ct HB.out hw177_3 :),(ct HB.out hw179_0 :),(ct HB.out hw179_1 :),(ct HB.out hw179_2 :),(ct HB.out hw179_3 :)⟩ (fun hHeld => ?_);clear hK K;refine norm_ (a':=?_) ?_ ?_;rotate_left
       ·show Act.put _ (some 23) _ = _
        simp only [Act.put,sA,s0,s1,i64_w,i32_w];rfl
       refine pV (i:=14) (N:=some 24) m15_5 rfl rfl qT ?_
       refine pV (i:=15) (N:=some 25) m16_5 rfl rfl qT ?_
       refine pV (i:=16) (N:=some 26) m17_5 rfl rfl qT ?_
       refine pW (i:=17) (N:=some 27) m18_5 rfl rfl qT ?_
       refine pW (i:=18) (N:=some 28) m19_5 rfl rfl qT ?_
       refine pW (i:=19) (N:=some 29) m20_5 rfl rfl qT ?_
       refine pW (i:=20) (N:=some 30) m21_5 rfl rfl qT ?_
       refine pW (i:=21) (N:=some 31) m22_5 rfl rfl qT ?_
       refine pW (i:=22) (N:=some 32) m23_5 rfl rfl qT ?_
       refine pW (i:=23) (N:=some 33) m24_5 rfl rfl qT ?_
       refine pV (i:=24) (N:=some 34) m25_5 rfl rfl qT ?_
       refine pV (i:=25) (N:=some 35) m26_5 rfl rfl qT ?_
       refine pW (i:=26) (N:=some 36) m27_5 rfl rfl qT ?_
       refine pW (i:=27) (N:=some 37) m28_5 rfl rfl qT ?_
       refine pW (i:=28) (N:=some 38) m29_5 rfl rfl qT ?_
       refine pW (i:=29) (N:=some 39) m30_5 rfl rfl qT ?_
       refine pW (i:=30) (N:=some 40) m31_5 rfl rfl qT ?_
       refine pW (i:=31) (N:=some 41) m32_5 rfl rfl qT ?_
       refine pW (i:=32) (N:=some 42) m33_5 rfl rfl qT ?_
       refine pW (i:=33) (N:=some 43) m34_5 rfl rfl qT ?_
       refine pW (i:=34) (N:=some 44) m44_5 rfl rfl qT ?_
       refine pW (i:=35) (N:=some 45) m45_5 rfl rfl qT ?_
       refine pW (i:=36) (N:=some 46) m46_5 rfl rfl qT ?_
       refine pW (i:=37) (N:=some 47) m47_5 rfl rfl qT ?_
       refine pW (i:=38) (N:=some 48) m39_5 rfl rfl qT ?_
       refine pW (i:=39) (N:=some 49) m40_5 rfl rfl qT ?_
       refine pW (i:=40) (N:=some 50) m41_5 rfl rfl qT ?_
       refine pW (i:=41) (N:=some 51) m42_5 rfl rfl qT ?_
       refine pV (i:=42) (N:=some 52) m43_5 rfl rfl qT ?_
       refine done_ (done_of HT_.out (by kernel_rfl)) ?_
       try go_wp2
       go_ret
       exact ⟨qq89,qq71⟩
     ·replace c5:=Bool.eq_false_iff.mpr c5;subst c5;have H1 : (some false) = some r:=by rw [if_neg (show ¬ (false = true) by decide)] at H;exact H
      clear H;have H:=H1;clear H1;obtain rfl:=Option.some.inj H
      try go_wp2
      replace HB:=am qq134;have p177 : 0 ≤ (x3_1 : Int):=odt qq100;have q177 : x3_1 < (l0.length : Int):=odt qq100;obtain ⟨ad177,e177,hx177_0,hx177_1,hx177_2,hx177_3⟩:=at_T49 HR0.out x3_1 p177 q177;have hw177_3:=hx177_3;have hw177_2:=hx177_2;have hw177_1:=hx177_1;have hw177_0:=hx177_0
      cases e177
      replace hx177_0:=(ct HB.out hx177_0 :)
      replace hx177_1:=(ct HB.out hx177_1 :)
      replace hx177_2:=(ct HB.out hx177_2 :)
      replace hx177_3:=(ct HB.out hx177_3 :)
      replace p177:=eq_true p177;replace q177:=eq_true q177;refine start_ (n:=43) (S:=fun w' => w'.cell? (ad177.add ((x3_1).toNat * 4)) = some (.int .i64 ((rd_T49 l0 x3_1).f0)) ∧ w'.cell? ⟨(ad177.add ((x3_1).toNat * 4)).block,(ad177.add ((x3_1).toNat * 4)).off + 1,none⟩ = some (.int .i64 ((rd_T49 l0 x3_1).f1)) ∧ w'.cell? ⟨(ad177.add ((x3_1).toNat * 4)).block,(ad177.add ((x3_1).toNat * 4)).off + 2,none⟩ = some (.int .i64 ((rd_T49 l0 x3_1).f2)) ∧ w'.cell? ⟨(ad177.add ((x3_1).toNat * 4)).block,(ad177.add ((x3_1).toNat * 4)).off + 3,none⟩ = some (.bool ((rd_T49 l0 x3_1).f3))) (ds:=[]) m0_5 (by kernel_rfl) rfl rfl ⟨(ct HB.out hw177_0 :),(ct HB.out hw177_1 :),(ct HB.out hw177_2 :),(ct HB.out hw177_3 :)⟩ (fun hHeld => ?_);refine with_tabW spec_AreCrew.tab4 spec_AreCrew.bits4 (fun HT_ HW_ => ?_)
      generalize wr.drew = w20 at HB hx177_0 hx177_1 hx177_2 hx177_3 hHeld ⊢
      refine pV (i:=0) (N:=some 10) m1_5 rfl rfl qT ?_
      refine pV (i:=1) (N:=some 11) m2_5 rfl rfl qT ?_
      refine pV (i:=2) (N:=some 12) m3_5 rfl rfl qT ?_
      refine pV (i:=3) (N:=some 13) m4_5 rfl rfl qT ?_
      refine tV4 (i:=4) (N:=some 14) m5_5 rfl rfl (take_ofW HT_.out HW_.out (by kernel_rfl)) hHeld ?_
      refine one_ (i:=5) (N:=some 15) m6_5 rfl rfl (one_of HT_.out (by kernel_rfl)) (by decide) (fun K hK => ?_);refine goes_ Try.func47 (by kernel_rfl) rfl #[.int .i64 ((rd_T49 l0 x3_1).f0),.int .i64 1,.int .i64 99] (by rfl) rfl rfl qq60 ?_;with_reducible refine (spec_l1In.calls ((rd_T49 l0 x3_1).f0) 1 99 false _ A4.out).mono ?_
      rintro e w' ⟨rfl,⟨nd,rfl⟩⟩
      refine ⟨_,rfl,?_⟩;refine hK.out _ _ ⟨(ct HB.out hw177_0 :),(ct HB.out hw177_1 :),(ct HB.out hw177_2 :),(ct HB.out hw177_3 :)⟩ (fun hHeld => ?_);clear hK K;refine norm_ (a':=?_) ?_ ?_;rotate_left
      ·show Act.put _ (some 15) _ = _
       simp only [Act.put,sA,s0,s1,i64_w,i32_w];rfl
      refine pV (i:=6) (N:=some 16) m7_5 rfl rfl qT ?_
      refine pV (i:=7) (N:=some 17) m8_5 rfl rfl qT ?_
      refine pW (i:=8) (N:=some 18) m9_5 rfl rfl qT ?_
      refine pW (i:=9) (N:=some 19) m10_5 rfl rfl qT ?_
      refine pW (i:=10) (N:=some 20) m11_5 rfl rfl qT ?_
      refine pW (i:=11) (N:=some 21) m12_5 rfl rfl qT ?_
      refine pW (i:=12) (N:=some 22) m13_5 rfl rfl qT ?_
      refine pW (i:=13) (N:=some 23) m14_5 rfl rfl qT ?_
      refine pW (i:=14) (N:=some 24) m15_5 rfl rfl qT ?_
      refine pV (i:=15) (N:=some 25) m16_5 rfl rfl qT ?_
      refine pV (i:=16) (N:=some 26) m17_5 rfl rfl qT ?_
      refine pW (i:=17) (N:=some 27) m18_5 rfl rfl qT ?_
      refine pW (i:=18) (N:=some 28) m19_5 rfl rfl qT ?_
      refine pW (i:=19) (N:=some 29) m20_5 rfl rfl qT ?_
      refine pW (i:=20) (N:=some 30) m21_5 rfl rfl qT ?_
      refine pW (i:=21) (N:=some 31) m22_5 rfl rfl qT ?_
      refine pW (i:=22) (N:=some 32) m23_5 rfl rfl qT ?_
      refine pW (i:=23) (N:=some 33) m24_5 rfl rfl qT ?_
      refine pV (i:=24) (N:=some 34) m25_5 rfl rfl qT ?_
      refine pV (i:=25) (N:=some 35) m26_5 rfl rfl qT ?_
      refine pW (i:=26) (N:=some 36) m27_5 rfl rfl qT ?_
      refine pW (i:=27) (N:=some 37) m28_5 rfl rfl qT ?_
      refine pW (i:=28) (N:=some 38) m29_5 rfl rfl qT ?_
      refine pW (i:=29) (N:=some 39) m30_5 rfl rfl qT ?_
      refine pW (i:=30) (N:=some 40) m31_5 rfl rfl qT ?_
      refine pW (i:=31) (N:=some 41) m32_5 rfl rfl qT ?_
      refine pW (i:=32) (N:=some 42) m33_5 rfl rfl qT ?_
      refine pW (i:=33) (N:=some 43) m34_5 rfl rfl qT ?_
      refine pW (i:=34) (N:=some 44) m44_5 rfl rfl qT ?_
      refine pW (i:=35) (N:=some 45) m45_5 rfl rfl qT ?_
      refine pW (i:=36) (N:=some 46) m46_5 rfl rfl qT ?_
      refine pW (i:=37) (N:=some 47) m47_5 rfl rfl qT ?_
      refine pW (i:=38) (N:=some 48) m39_5 rfl rfl qT ?_
      refine pW (i:=39) (N:=some 49) m40_5 rfl rfl qT ?_
      refine pW (i:=40) (N:=some 50) m41_5 rfl rfl qT ?_
      refine pW (i:=41) (N:=some 51) m42_5 rfl rfl qT ?_
      refine pV (i:=42) (N:=some 52) m43_5 rfl rfl qT ?_
      refine done_ (done_of HT_.out (by kernel_rfl)) ?_
      try go_wp2
      go_ret
      exact ⟨qq89,qq71⟩
    ·rw [if_neg c3] at H;exact absurd H (by simp)
   ·rw [if_neg c2] at H;have c2b0 : decide (x3_1 < (l0.length : Int)) = false:=decide_eq_false c2;clear c2;replace H:=bS.mp H;obtain ⟨t176,A210,H⟩:=H;replace H : (some t176) = some r:=H;have A21:=am A210;clear A210;obtain rfl:=Option.some.inj H;go_wp2_with (first | ((with_reducible refine gate_callee (f:=47) rfl ?_);refine goesL_ (some 55) rfl rfl Try.func47 (by kernel_rfl) rfl #[.int .i64 (l0.length : Int),.int .i64 1,.int .i64 8] rfl qq60 ?_;(with_reducible refine (spec_l1In.calls (l0.length : Int) 1 8 t176 _ A21.out).mono ?_);rintro e w' ⟨rfl,⟨nd,rfl⟩⟩;refine ⟨_,rfl,?_⟩))
    go_ret
    exact ⟨qq89,qq71⟩

end Go.Proofs.Ytnghncedinngoaa.PFnExactPutUp
