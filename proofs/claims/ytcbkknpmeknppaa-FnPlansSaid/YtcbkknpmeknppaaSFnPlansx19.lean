/- Contracts of functions that the law FnPlans reaches, for its row: lines that the kit's printer wrote for this claim, set shorter by a program of this session (own.py), and what fell in Lean proved anew. Lean checks them. -/
import Derived.Test.YtcbkknpmeknppaaSFnPlansx0
import Derived.Test.YtcbkknpmeknppaaSFnPlansx1
import Derived.Test.YtcbkknpmeknppaaSFnPlansx3
import Derived.Test.YtcbkknpmeknppaaSFnPlansx10
import Derived.Test.YtcbkknpmeknppaaSFnPlansx13
import Derived.Test.YtcbkknpmeknppaaSFnPlansx14
import Derived.Test.YtcbkknpmeknppaaSFnPlansx17
import Derived.Test.YtcbkknpmeknppaaSFnPlansx18
namespace Go.Proofs.Ytcbkknpmeknppaa.PFnPlans
open Go.RowKit Go.Proofs.YtcbkknpmeknppaaW.PrintWords Go.Proofs.YtcbkknpmeknppaaW.PrintLast Go.Proofs.YtcbkknpmeknppaaW.PrintMore
attribute [local go_sem] max2_int min2_int max_two min_two max_three min_three max_four min_four   -- for this text's walks alone
set_option linter.unusedVariables false
set_option linter.unusedSimpArgs false

abbrev m0_19 : Array Bool := #[Z,Z,Z,Z,Z,Z,Z,Z,Z,Z,Z,Z,Z,Z,Z,Z,Z,Z,Z,Z,Z]
abbrev m1_19 : Array Bool := #[Z,Y,Z,Z,Z,Z,Z,Z,Z,Z,Z,Z,Z,Z,Z,Z,Z,Z,Z,Z,Z]
abbrev m2_19 : Array Bool := #[Z,Y,Y,Z,Z,Z,Z,Z,Z,Z,Z,Z,Z,Z,Z,Z,Z,Z,Z,Z,Z]
abbrev m3_19 : Array Bool := #[Z,Y,Y,Y,Z,Z,Z,Z,Z,Z,Z,Z,Z,Z,Z,Z,Z,Z,Z,Z,Z]
abbrev m4_19 : Array Bool := #[Z,Y,Y,Y,Y,Z,Z,Z,Z,Z,Z,Z,Z,Z,Z,Z,Z,Z,Z,Z,Z]
abbrev m5_19 : Array Bool := #[Z,Y,Y,Y,Y,Z,Y,Z,Z,Z,Z,Z,Z,Z,Z,Z,Z,Z,Z,Z,Z]
abbrev m6_19 : Array Bool := #[Z,Y,Y,Y,Y,Z,Y,Y,Z,Z,Z,Z,Z,Z,Z,Z,Z,Z,Z,Z,Z]
abbrev m7_19 : Array Bool := #[Z,Y,Y,Y,Y,Z,Y,Y,Y,Z,Z,Z,Z,Z,Z,Z,Z,Z,Z,Z,Z]
abbrev m8_19 : Array Bool := #[Y,Y,Y,Y,Y,Z,Y,Y,Y,Z,Z,Z,Z,Z,Z,Z,Z,Z,Z,Z,Z]
abbrev m9_19 : Array Bool := #[Y,Y,Y,Y,Y,Y,Y,Y,Y,Z,Z,Z,Z,Z,Z,Z,Z,Z,Z,Z,Z]
abbrev m10_19 : Array Bool := #[Y,Y,Y,Y,Y,Y,Y,Y,Y,Y,Z,Z,Z,Z,Z,Z,Z,Z,Z,Z,Z]
abbrev m11_19 : Array Bool := #[Y,Y,Y,Y,Y,Y,Y,Y,Y,Y,Y,Z,Z,Z,Z,Z,Z,Z,Z,Z,Z]
abbrev m12_19 : Array Bool := #[Y,Y,Y,Y,Y,Y,Y,Y,Y,Y,Y,Y,Z,Z,Z,Z,Z,Z,Z,Z,Z]
abbrev m13_19 : Array Bool := #[Y,Y,Y,Y,Y,Y,Y,Y,Y,Y,Y,Y,Y,Z,Z,Z,Z,Z,Z,Z,Z]
abbrev m14_19 : Array Bool := #[Y,Y,Y,Y,Y,Y,Y,Y,Y,Y,Y,Y,Y,Y,Y,Y,Y,Z,Z,Z,Z]
abbrev m15_19 : Array Bool := #[Y,Y,Y,Y,Y,Y,Y,Y,Y,Y,Y,Y,Y,Y,Y,Y,Y,Y,Z,Z,Z]
abbrev m16_19 : Array Bool := #[Y,Y,Y,Y,Y,Y,Y,Y,Y,Y,Y,Y,Y,Y,Y,Y,Y,Y,Y,Z,Z]
abbrev m17_19 : Array Bool := #[Y,Y,Y,Y,Y,Y,Y,Y,Y,Y,Y,Y,Y,Y,Y,Y,Y,Y,Y,Y,Z]
abbrev m18_19 : Array Bool := #[Y,Y,Y,Y,Y,Y,Y,Y,Y,Y,Y,Y,Y,Y,Y,Y,Y,Y,Y,Y,Y]
abbrev m19_19 : Array Bool := #[Z,Z,Z,Z,Z,Z,Z,Z,Z,Z,Z,Z,Z,Z,Z,Z,Z,Z,Z,Z,Z,Z,Z,Z,Z,Z,Z,Z,Z]
abbrev m20_19 : Array Bool := #[Y,Z,Z,Z,Z,Z,Z,Z,Z,Z,Z,Z,Z,Z,Z,Z,Z,Z,Z,Z,Z,Z,Z,Z,Z,Z,Z,Z,Z]
abbrev m21_19 : Array Bool := #[Y,Y,Z,Z,Z,Z,Z,Z,Z,Z,Z,Z,Z,Z,Z,Z,Z,Z,Z,Z,Z,Z,Z,Z,Z,Z,Z,Z,Z]
abbrev m22_19 : Array Bool := #[Y,Y,Y,Z,Z,Z,Z,Z,Z,Z,Z,Z,Z,Z,Z,Z,Z,Z,Z,Z,Z,Z,Z,Z,Z,Z,Z,Z,Z]
abbrev m23_19 : Array Bool := #[Y,Y,Y,Y,Z,Z,Z,Z,Z,Z,Z,Z,Z,Z,Z,Z,Z,Z,Z,Z,Z,Z,Z,Z,Z,Z,Z,Z,Z]
abbrev m24_19 : Array Bool := #[Y,Y,Y,Y,Y,Z,Z,Z,Z,Z,Z,Z,Z,Z,Z,Z,Z,Z,Z,Z,Z,Z,Z,Z,Z,Z,Z,Z,Z]
abbrev m25_19 : Array Bool := #[Y,Y,Y,Y,Y,Z,Y,Z,Z,Z,Z,Z,Z,Z,Z,Z,Z,Z,Z,Z,Z,Z,Z,Z,Z,Z,Z,Z,Z]
abbrev m26_19 : Array Bool := #[Y,Y,Y,Y,Y,Z,Y,Y,Z,Z,Z,Z,Z,Z,Z,Z,Z,Z,Z,Z,Z,Z,Z,Z,Z,Z,Z,Z,Z]
abbrev m27_19 : Array Bool := #[Y,Y,Y,Y,Y,Z,Y,Y,Y,Z,Z,Z,Z,Z,Z,Z,Z,Z,Z,Z,Z,Z,Z,Z,Z,Z,Z,Z,Z]
abbrev m28_19 : Array Bool := #[Y,Y,Y,Y,Y,Z,Y,Y,Y,Y,Z,Z,Z,Z,Z,Z,Z,Z,Z,Z,Z,Z,Z,Z,Z,Z,Z,Z,Z]
abbrev m29_19 : Array Bool := #[Y,Y,Y,Y,Y,Z,Y,Y,Y,Y,Y,Z,Z,Z,Z,Z,Z,Z,Z,Z,Z,Z,Z,Z,Z,Z,Z,Z,Z]
abbrev m30_19 : Array Bool := #[Y,Y,Y,Y,Y,Z,Y,Y,Y,Y,Y,Y,Z,Z,Z,Z,Z,Z,Z,Z,Z,Z,Z,Z,Z,Z,Z,Z,Z]
abbrev m31_19 : Array Bool := #[Y,Y,Y,Y,Y,Y,Y,Y,Y,Y,Y,Y,Z,Z,Z,Z,Z,Z,Z,Z,Z,Z,Z,Z,Z,Z,Z,Z,Z]
abbrev m32_19 : Array Bool := #[Y,Y,Y,Y,Y,Y,Y,Y,Y,Y,Y,Y,Y,Z,Z,Z,Z,Z,Z,Z,Z,Z,Z,Z,Z,Z,Z,Z,Z]
abbrev m33_19 : Array Bool := #[Y,Y,Y,Y,Y,Y,Y,Y,Y,Y,Y,Y,Y,Y,Z,Z,Z,Z,Z,Z,Z,Z,Z,Z,Z,Z,Z,Z,Z]
abbrev m34_19 : Array Bool := #[Y,Y,Y,Y,Y,Y,Y,Y,Y,Y,Y,Y,Y,Y,Y,Z,Z,Z,Z,Z,Z,Z,Z,Z,Z,Z,Z,Z,Z]
abbrev m35_19 : Array Bool := #[Y,Y,Y,Y,Y,Y,Y,Y,Y,Y,Y,Y,Y,Y,Y,Y,Z,Z,Z,Z,Z,Z,Z,Z,Z,Z,Z,Z,Z]
abbrev m36_19 : Array Bool := #[Y,Y,Y,Y,Y,Y,Y,Y,Y,Y,Y,Y,Y,Y,Y,Y,Y,Z,Z,Z,Z,Z,Z,Z,Z,Z,Z,Z,Z]
abbrev m37_19 : Array Bool := #[Y,Y,Y,Y,Y,Y,Y,Y,Y,Y,Y,Y,Y,Y,Y,Y,Y,Y,Z,Z,Z,Z,Z,Z,Z,Z,Z,Z,Z]
abbrev m38_19 : Array Bool := #[Y,Y,Y,Y,Y,Y,Y,Y,Y,Y,Y,Y,Y,Y,Y,Y,Y,Y,Y,Z,Z,Z,Z,Z,Z,Z,Z,Z,Z]
abbrev m39_19 : Array Bool := #[Y,Y,Y,Y,Y,Y,Y,Y,Y,Y,Y,Y,Y,Y,Y,Y,Y,Y,Y,Y,Z,Z,Z,Z,Z,Z,Z,Z,Z]
abbrev m40_19 : Array Bool := #[Y,Y,Y,Y,Y,Y,Y,Y,Y,Y,Y,Y,Y,Y,Y,Y,Y,Y,Y,Y,Y,Z,Z,Z,Z,Z,Z,Z,Z]
abbrev m41_19 : Array Bool := #[Y,Y,Y,Y,Y,Y,Y,Y,Y,Y,Y,Y,Y,Y,Y,Y,Y,Y,Y,Y,Y,Y,Z,Z,Z,Z,Z,Z,Z]
abbrev m42_19 : Array Bool := #[Y,Y,Y,Y,Y,Y,Y,Y,Y,Y,Y,Y,Y,Y,Y,Y,Y,Y,Y,Y,Y,Y,Y,Z,Z,Z,Z,Z,Z]
abbrev m43_19 : Array Bool := #[Y,Y,Y,Y,Y,Y,Y,Y,Y,Y,Y,Y,Y,Y,Y,Y,Y,Y,Y,Y,Y,Y,Y,Y,Z,Z,Z,Z,Z]
abbrev m44_19 : Array Bool := #[Y,Y,Y,Y,Y,Y,Y,Y,Y,Y,Y,Y,Y,Y,Y,Y,Y,Y,Y,Y,Y,Y,Y,Y,Y,Z,Z,Z,Z]
abbrev m45_19 : Array Bool := #[Y,Y,Y,Y,Y,Y,Y,Y,Y,Y,Y,Y,Y,Y,Y,Y,Y,Y,Y,Y,Y,Y,Y,Y,Y,Y,Z,Z,Z]
abbrev m46_19 : Array Bool := #[Y,Y,Y,Y,Y,Y,Y,Y,Y,Y,Y,Y,Y,Y,Y,Y,Y,Y,Y,Y,Y,Y,Y,Y,Y,Y,Y,Z,Z]
abbrev m47_19 : Array Bool := #[Y,Y,Y,Y,Y,Y,Y,Y,Y,Y,Y,Y,Y,Y,Y,Y,Y,Y,Y,Y,Y,Y,Y,Y,Y,Y,Y,Y,Z]
abbrev m48_19 : Array Bool := #[Y,Y,Y,Y,Y,Y,Y,Y,Y,Y,Y,Y,Y,Y,Y,Y,Y,Y,Y,Y,Y,Y,Y,Y,Y,Y,Y,Y,Y]
/-! ### laws_FnPlans: function 6 -/
mutual
def laws_FnPlans.j0 : Nat → List Int → Int → List (S76) → List Int → Bool → Int → Int → List Int → Option (Bool)
 | 0,_,_,_,_,_,_,_,_ => none
 | k + 1,x0,x4,x5,x6,x44,x648000,x648001,x648002 => if x44 = true then (some false) else (laws_FnPlans.l0 k x0 x4 x5 x6 1 x648000 x648001 x648002)
def laws_FnPlans.l0 : Nat → List Int → Int → List (S76) → List Int → Int → Int → Int → List Int → Option (Bool)
 | 0,_,_,_,_,_,_,_,_ => none
 | k + 1,x0,x4,x5,x6,x7,x648000,x648001,x648002 => if x7 < (x6.length : Int) then (if 0 ≤ (wrap64 (x7 - 1)) then (if (wrap64 (x7 - 1)) < (x6.length : Int) then (if 0 ≤ x7 then ((impl_Apart.f k x648000 x648001 x648002 (rd x6 (wrap64 (x7 - 1))) (rd x6 x7)).bind fun t655 => (if t655 > 1 then (some false) else ((impl_IsOpen.f k x648000 x648001 x648002 (rd x6 x7)).bind fun t657 => (if t657 = true then (laws_FnPlans.l0 k x0 x4 x5 x6 (wrap64 (x7 + 1)) x648000 x648001 x648002) else (some false))))) else (none)) else (none)) else (none)) else (if (x6.length : Int) > 0 then (laws_FnPlans.j2 k x0 x4 x5 x6 (decide ((x5.length : Int) > 0)) x648000 x648001 x648002) else (laws_FnPlans.j2 k x0 x4 x5 x6 false x648000 x648001 x648002))
def laws_FnPlans.j2 : Nat → List Int → Int → List (S76) → List Int → Bool → Int → Int → List Int → Option (Bool)
 | 0,_,_,_,_,_,_,_,_ => none
 | k + 1,x0,x4,x5,x6,x79,x648000,x648001,x648002 => if x79 = true then (if 0 ≤ (wrap64 ((x5.length : Int) - 1)) then (if (wrap64 ((x5.length : Int) - 1)) < (x5.length : Int) then ((impl_BackPlan.f k x4 x5).bind fun t659 => ((impl_PlanCells.f k x648000 x648001 x648002 ((rd_T76 x5 (wrap64 ((x5.length : Int) - 1))).f0) t659).bind fun t662 => (if 0 ≤ (wrap64 ((x6.length : Int) - 1)) then (if (wrap64 ((x6.length : Int) - 1)) < (x6.length : Int) then (if (rd x6 (wrap64 ((x6.length : Int) - 1))) = ((rd_T76 x5 (wrap64 ((x5.length : Int) - 1))).f0) then (if (t662.length : Int) = 0 then (laws_FnPlans.j3 k x0 true) else (if 0 ≤ (wrap64 ((t662.length : Int) - 1)) then (if (wrap64 ((t662.length : Int) - 1)) < (t662.length : Int) then (laws_FnPlans.j3 k x0 ((rd t662 (wrap64 ((t662.length : Int) - 1))) != x4)) else (none)) else (none))) else (laws_FnPlans.j3 k x0 true)) else (none)) else (none)))) else (none)) else (none)) else (laws_FnPlans.j4 k x0)
def laws_FnPlans.j4 : Nat → List Int → Option (Bool)
 | 0,_ => none
 | k + 1,x0 => (spec_DrawPlanFood.f k x0).bind fun bt668 => ((impl_PlanFood.f k bt668.1 bt668.2.1 bt668.2.2.1 bt668.2.2.2.1 bt668.2.2.2.2.1 bt668.2.2.2.2.2.1 bt668.2.2.2.2.2.2.1 bt668.2.2.2.2.2.2.2.1 bt668.2.2.2.2.2.2.2.2.1 bt668.2.2.2.2.2.2.2.2.2.1 bt668.2.2.2.2.2.2.2.2.2.2).bind fun t690 => (if t690 < 0 then (some true) else ((impl_NeedOf.f k bt668.2.2.2.2.2.2.2.2.2.1).bind fun t691 => ((impl_PlanDays.f k bt668.1 bt668.2.1 bt668.2.2.1 bt668.2.2.2.1 bt668.2.2.2.2.1).bind fun t692 => (some (decide (t690 ≥ (wrap64 (t691 * t692)))))))))
def laws_FnPlans.j3 : Nat → List Int → Bool → Option (Bool)
 | 0,_,_ => none
 | k + 1,x0,x120 => if x120 = true then (some false) else (laws_FnPlans.j4 k x0)
end
def laws_FnPlans.f (k : Nat) (l0 : List Int) : Option (Bool) := (laws_big.f l0).bind fun t637 => (if t637 = true then (some true) else ((spec_DrawPlanCells.f k l0).bind fun bt638 => ((impl_PlanCells.f k bt638.1 bt638.2.1 bt638.2.2.1 bt638.2.2.2.1 bt638.2.2.2.2).bind fun t648 => ((impl_IsPlan.f k bt638.1 bt638.2.1 bt638.2.2.1 bt638.2.2.2.1 bt638.2.2.2.2).bind fun t651 => (if (t651 != (decide ((t648.length : Int) > 0))) = true then (laws_FnPlans.j0 k l0 bt638.2.2.2.1 bt638.2.2.2.2 t648 true bt638.1 bt638.2.1 bt638.2.2.1) else ((impl_PlanDays.f k bt638.1 bt638.2.1 bt638.2.2.1 bt638.2.2.2.1 bt638.2.2.2.2).bind fun t652 => (laws_FnPlans.j0 k l0 bt638.2.2.2.1 bt638.2.2.2.2 t648 (t652 != (wrap64 ((t648.length : Int) - 1))) bt638.1 bt638.2.1 bt638.2.2.1)))))))
def laws_FnPlans.T10 : Bool × List (List Nat × List Nat) := (true, [([], []), ([], []), ([], []), ([2], [2]), ([1, 3], [1, 3]), ([4], [4]), ([], []), ([], []), ([6, 7], [6, 7]), ([8], [8]), ([0, 5, 9], [0, 5, 9]), ([10], [10]), ([11, 10], [11]), ([12], [12]), ([12], [12]), ([12], [12]), ([14, 15, 12], [12, 14, 15]), ([16, 12], [12, 16]), ([13, 17, 12, 12], [12, 13, 17]), ([18, 12], [12, 18]), ([12, 19], [12, 19])])
def laws_FnPlans.B10 : List Nat := [0, 0, 0, 4, 14, 30, 0, 0, 192, 448, 1023, 2047, 4095, 8191, 8191, 8191, 57343, 122879, 262143, 524287, 1048575]
theorem laws_FnPlans.tab10 : rtab .any (opsOf Try.f6 10) = laws_FnPlans.T10 := by kernel_rfl
theorem laws_FnPlans.bits10 : waitsOk laws_FnPlans.T10.2 laws_FnPlans.B10 = true := by kernel_rfl
def laws_FnPlans.T13 : Bool × List (List Nat × List Nat) := (true, [([], []), ([], []), ([], []), ([2], [2]), ([3], [3]), ([1, 4], [1, 4]), ([5], [5]), ([6], [6]), ([], []), ([], []), ([8, 9], [8, 9]), ([0, 7, 10, 10], [0, 7, 10]), ([11, 11, 0, 1, 2, 3, 4, 5, 6, 7, 8, 9, 10, 11], [11])])
def laws_FnPlans.B13 : List Nat := [0, 0, 0, 4, 12, 30, 62, 126, 0, 0, 768, 2047, 4095]
theorem laws_FnPlans.tab13 : rtab .any (opsOf Try.f6 13) = laws_FnPlans.T13 := by kernel_rfl
theorem laws_FnPlans.bits13 : waitsOk laws_FnPlans.T13.2 laws_FnPlans.B13 = true := by kernel_rfl
def laws_FnPlans.T14 : Bool × List (List Nat × List Nat) := (true, [([], []), ([], []), ([1], [1]), ([2], [2]), ([0, 3], [0, 3]), ([4], [4]), ([], []), ([], []), ([7], [7]), ([8], [8]), ([6, 9], [6, 9]), ([10], [10]), ([11], [11]), ([5, 12], [5, 12]), ([13], [13]), ([14], [14]), ([15, 14], [14, 15]), ([16, 14], [14, 16]), ([14, 17], [14, 17]), ([18, 14], [18]), ([19], [19]), ([19], [19]), ([21, 19], [19, 21]), ([22, 19], [19, 22]), ([20, 23, 19], [19, 20, 23]), ([24, 19], [19, 24]), ([19], [19]), ([25, 26, 19], [19, 25, 26]), ([19, 27], [19, 27])])
def laws_FnPlans.B14 : List Nat := [0, 0, 2, 6, 15, 31, 0, 0, 128, 384, 960, 1984, 4032, 8191, 16383, 32767, 65535, 131071, 262143, 524287, 1048575, 1048575, 3145727, 7340031, 16777215, 33554431, 1048575, 134217727, 268435455]
theorem laws_FnPlans.tab14 : rtab .any (opsOf Try.f6 14) = laws_FnPlans.T14 := by kernel_rfl
theorem laws_FnPlans.bits14 : waitsOk laws_FnPlans.T14.2 laws_FnPlans.B14 = true := by kernel_rfl
def laws_FnPlans.T18 : Bool × List (List Nat × List Nat) := (true, [([], []), ([0], [0]), ([1], [1]), ([2], [2]), ([2], [2]), ([4, 2], [2, 4]), ([5, 2, 2], [2, 5]), ([2], [2]), ([2], [2]), ([2], [2]), ([7, 8, 9, 6, 2], [2, 7, 8, 9]), ([6, 10, 2], [2, 6, 10]), ([3, 11, 2], [2, 3, 11]), ([2, 12], [2, 12]), ([13, 10, 0, 1, 2, 3, 4, 5, 6, 7, 8, 9, 10, 11, 12, 13], [13])])
def laws_FnPlans.B18 : List Nat := [0, 1, 3, 7, 7, 23, 55, 7, 7, 7, 1015, 2039, 4095, 8191, 16383]
theorem laws_FnPlans.tab18 : rtab .any (opsOf Try.f6 18) = laws_FnPlans.T18 := by kernel_rfl
theorem laws_FnPlans.bits18 : waitsOk laws_FnPlans.T18.2 laws_FnPlans.B18 = true := by kernel_rfl
set_option maxHeartbeats 8000000 in
set_option maxRecDepth 100000 in
theorem laws_FnPlans.calls (k : Nat) (A0 : Option Addr) (c0 : Nat) (l0 : List Int) (r : Bool) (w : World) (hr0 : Kd.C (Kd.int .u8) w A0 l0.length l0) (hc0 : l0.length ≤ c0) (h : laws_FnPlans.f k l0 = some r) :
  Calls Try.prog 6 #[.slice A0 l0.length c0] w fun e w' => e = .returned (.bool r) ∧ Below w.heap.size w w':=by
 have hu51:=Try.underlying51;have hu37:=Try.underlying37;have hu27:=Try.underlying27;have HR0:=am hr0;have HC0:=am hc0;clear hr0 hc0;have HB:=am (Below.refl w.heap.size w);have H : ((laws_big.f l0).bind fun t637 => (if t637 = true then (some true) else ((spec_DrawPlanCells.f k l0).bind fun bt638 => ((impl_PlanCells.f k bt638.1 bt638.2.1 bt638.2.2.1 bt638.2.2.2.1 bt638.2.2.2.2).bind fun t648 => ((impl_IsPlan.f k bt638.1 bt638.2.1 bt638.2.2.1 bt638.2.2.2.1 bt638.2.2.2.2).bind fun t651 => (if (t651 != (decide ((t648.length : Int) > 0))) = true then (laws_FnPlans.j0 k l0 bt638.2.2.2.1 bt638.2.2.2.2 t648 true bt638.1 bt638.2.1 bt638.2.2.1) else ((impl_PlanDays.f k bt638.1 bt638.2.1 bt638.2.2.1 bt638.2.2.2.1 bt638.2.2.2.2).bind fun t652 => (laws_FnPlans.j0 k l0 bt638.2.2.2.1 bt638.2.2.2.2 t648 (t652 != (wrap64 ((t648.length : Int) - 1))) bt638.1 bt638.2.1 bt638.2.2.1)))))))) = some r:=h;clear h;replace H:=bS.mp H;obtain ⟨t637,A20,H⟩:=H;replace H : (if t637 = true then (some true) else ((spec_DrawPlanCells.f k l0).bind fun bt638 => ((impl_PlanCells.f k bt638.1 bt638.2.1 bt638.2.2.1 bt638.2.2.2.1 bt638.2.2.2.2).bind fun t648 => ((impl_IsPlan.f k bt638.1 bt638.2.1 bt638.2.2.1 bt638.2.2.2.1 bt638.2.2.2.2).bind fun t651 => (if (t651 != (decide ((t648.length : Int) > 0))) = true then (laws_FnPlans.j0 k l0 bt638.2.2.2.1 bt638.2.2.2.2 t648 true bt638.1 bt638.2.1 bt638.2.2.1) else ((impl_PlanDays.f k bt638.1 bt638.2.1 bt638.2.2.1 bt638.2.2.2.1 bt638.2.2.2.2).bind fun t652 => (laws_FnPlans.j0 k l0 bt638.2.2.2.1 bt638.2.2.2.2 t648 (t652 != (wrap64 ((t648.length : Int) - 1))) bt638.1 bt638.2.1 bt638.2.2.1))))))) = some r:=H;have A2:=am A20;clear A20
 by_cases c3 : t637 = true
 ·subst c3;have H1 : (some true) = some r:=by rw [if_pos rfl] at H;exact H
  clear H;have H:=H1;clear H1;obtain rfl:=Option.some.inj H
  go_enter Try.func6,Try.ntmps6
  go_wp2_with (first | ((with_reducible refine gate_callee (f:=11) rfl ?_);refine goesL_ (some 16) rfl rfl Try.func11 (by kernel_rfl) rfl #[.slice A0 l0.length c0] rfl qq177 ?_;(with_reducible refine (laws_big.calls _ _ l0 true _ ?side1 ?side2 A2.out).mono ?_);(case side1 => exact qq179);(case side2 => exact HC0.out);rintro e w' ⟨rfl,⟨nd,rfl⟩⟩;refine ⟨_,rfl,?_⟩))
  go_ret
  exact ⟨qq246,qq197⟩
 ·replace c3:=Bool.eq_false_iff.mpr c3;subst c3;have H1 : ((spec_DrawPlanCells.f k l0).bind fun bt638 => ((impl_PlanCells.f k bt638.1 bt638.2.1 bt638.2.2.1 bt638.2.2.2.1 bt638.2.2.2.2).bind fun t648 => ((impl_IsPlan.f k bt638.1 bt638.2.1 bt638.2.2.1 bt638.2.2.2.1 bt638.2.2.2.2).bind fun t651 => (if (t651 != (decide ((t648.length : Int) > 0))) = true then (laws_FnPlans.j0 k l0 bt638.2.2.2.1 bt638.2.2.2.2 t648 true bt638.1 bt638.2.1 bt638.2.2.1) else ((impl_PlanDays.f k bt638.1 bt638.2.1 bt638.2.2.1 bt638.2.2.2.1 bt638.2.2.2.2).bind fun t652 => (laws_FnPlans.j0 k l0 bt638.2.2.2.1 bt638.2.2.2.2 t648 (t652 != (wrap64 ((t648.length : Int) - 1))) bt638.1 bt638.2.1 bt638.2.2.1)))))) = some r:=by rw [if_neg (show ¬ (false = true) by decide)] at H;exact H
  clear H;have H:=H1;clear H1;replace H:=bS.mp H;obtain ⟨⟨t638,t639,t640,t643,t644⟩,A40,H⟩:=H;replace H : ((impl_PlanCells.f k t638 t639 t640 t643 t644).bind fun t648 => ((impl_IsPlan.f k t638 t639 t640 t643 t644).bind fun t651 => (if (t651 != (decide ((t648.length : Int) > 0))) = true then (laws_FnPlans.j0 k l0 t643 t644 t648 true t638 t639 t640) else ((impl_PlanDays.f k t638 t639 t640 t643 t644).bind fun t652 => (laws_FnPlans.j0 k l0 t643 t644 t648 (t652 != (wrap64 ((t648.length : Int) - 1))) t638 t639 t640))))) = some r:=H;have A4:=am A40;clear A40;replace H:=bS.mp H;obtain ⟨t648,A50,H⟩:=H;replace H : ((impl_IsPlan.f k t638 t639 t640 t643 t644).bind fun t651 => (if (t651 != (decide ((t648.length : Int) > 0))) = true then (laws_FnPlans.j0 k l0 t643 t644 t648 true t638 t639 t640) else ((impl_PlanDays.f k t638 t639 t640 t643 t644).bind fun t652 => (laws_FnPlans.j0 k l0 t643 t644 t648 (t652 != (wrap64 ((t648.length : Int) - 1))) t638 t639 t640)))) = some r:=H;have A5:=am A50;clear A50;have HC6:=am H;clear H
  go_enter Try.func6,Try.ntmps6
  go_upto_region 5 with (first | ((with_reducible refine gate_callee (f:=11) rfl ?_);refine goesL_ (some 16) rfl rfl Try.func11 (by kernel_rfl) rfl #[.slice A0 l0.length c0] rfl qq177 ?_;(with_reducible refine (laws_big.calls _ _ l0 false _ ?side1 ?side2 A2.out).mono ?_);(case side1 => exact qq179);(case side2 => exact HC0.out);rintro e w' ⟨rfl,⟨nd,rfl⟩⟩;refine ⟨_,rfl,?_⟩) | ((with_reducible refine gate_callee (f:=44) rfl ?_);refine goesL_ (some 19) rfl rfl Try.func44 (by kernel_rfl) rfl #[.slice A0 l0.length c0] rfl qq177 ?_;(with_reducible refine (spec_DrawPlanCells.calls k _ _ l0 t638 t639 t640 t643 t644 _ ?side1 ?side2 A4.out).mono ?_);(case side1 => exact qq179);(case side2 => exact HC0.out);rintro e w7 ⟨v641,v645,rfl,ho0,ho1,hb⟩;refine ⟨_,rfl,?_⟩;have HO642:=am (Kd.Q_lower ho0 (below_size qq197));have HO646:=am (Kd.R_lower ho1 (below_size qq197));replace HB:=am (below_step qq197 hb);(try clear hb);(try clear hb2);(try clear hk);(try clear hi);(try clear ho0);(try clear ho1)) | ((with_reducible refine gate_dst (N:=3) rfl ?_);(try (refine gate_guard (by rfl) ?_;dsimp only));refine box_event ?hg (N:=3) ?hd (cs:=#[.int .i64 0,.int .i64 0,.slice none 0 0]) (t:=51) ?hr ?_;(case hd => rfl);(case hg => rfl);(case hr => exact qq296);intro gb647 hg w8 hbox hb;replace HO642:=am (Kd.Q_below qq194 hb);replace HO646:=am (Kd.R_below qq261 hb);have BK647:=am (hbox);have GW647:=am ((qq149 : w.heap.size ≤ gb647));have GE647:=am ((qq149 : w.heap.size ≤ gb647));replace HB:=am (below_step qq197 hb);clear hb hbox hg;obtain ⟨hcz9_0,hcz9_1,hcz9_2,hfz9_0,hfz9_1,hfz9_2⟩:=bcl3 BK647.out;obtain ⟨Ao10,co10,eo10,_⟩:=Kd.Q_slice HO642.out;subst eo10;obtain ⟨Ao11,co11,eo11⟩:=Kd.R_slice HO646.out;subst eo11) | ((with_reducible refine gate_callee (f:=45) rfl ?_);refine goesL_ (some 26) rfl rfl Try.func45 (by kernel_rfl) rfl #[.agg #[.int .i64 t638,.int .i64 t639,.slice Ao10 t640.length co10],.int .i64 t643,.slice Ao11 t644.length co11] rfl qq177 ?_;(with_reducible refine (impl_PlanCells.calls k t638 t639 _ _ t640 t643 _ _ t644 t648 _ ?side1 ?side2 ?side3 ?side4 A5.out).mono ?_);(case side1 => refine (Kd.Q_reads' (e:=3) (base:=w.heap.size) (ok:=fun k_ => True) (n:=t640.length) (c:=co10) ?_).2.2;exact qq15);(case side2 => exact qq306);(case side3 => refine (Kd.R_reads' (e:=76) (base:=w.heap.size) (ok:=fun k_ => True) (n:=t644.length) (c:=co11) ?_).2.2;exact qq17);(case side4 => exact qq303);rintro e w12 ⟨v649,rfl,ho0,hb⟩;refine ⟨_,rfl,?_⟩;replace HO646:=am (Kd.R_below qq17 hb);have HO650:=am (Kd.R_lower (Kd.R_new' ho0 (Kd.Q_lt qq15)) (below_size qq150));replace HO642:=am (Kd.Q_elder' qq15 (Kd.R_base ho0) hb);replace BK647:=am (blk_below (g:=gb647) (o:=.cells #[.int .i64 t638,.int .i64 t639,.slice Ao10 t640.length co10] 51 (0,0)) (by (with_reducible repeat (first | refine dN ?_ _ | refine dD ?_ | refine dA ?_ _));refine blk_put (cs:=#[.int .i64 t638,.int .i64 t639,.slice none 0 0]) ?_ 2 _ rfl;(with_reducible repeat (first | refine dN ?_ _ | refine dD ?_ | refine dA ?_ _));refine blk_put (cs:=#[.int .i64 t638,.int .i64 0,.slice none 0 0]) ?_ 1 _ rfl;(with_reducible repeat (first | refine dN ?_ _ | refine dD ?_ | refine dA ?_ _));refine blk_put (cs:=#[.int .i64 0,.int .i64 0,.slice none 0 0]) ?_ 0 _ rfl;(with_reducible repeat (first | refine dN ?_ _ | refine dD ?_ | refine dA ?_ _));exact BK647.out) hb);replace HB:=am (below_step qq150 hb);(try clear hb);(try clear hb2);(try clear hk);(try clear hi);(try clear ho0)))
  (try simp only [Act.put,sA,s0,s1])
  go_cut [44] (fun v44 wc => ∃ (kq : Nat) (x44_5 : Bool),v44 = .bool x44_5 ∧ Aside0 (laws_FnPlans.j0 kq l0 t643 t644 t648 x44_5 t638 t639 t640 = some r) ∧ Aside0 (kq ≤ k) ∧ Aside0 (Kd.R k76 76 wc w.heap.size (fun _ => True) (.slice Ao11 t644.length co11) t644) ∧ Aside0 (Kd.R (Kd.int .i64) 3 wc w.heap.size (fun k_ => some k_ ≠ ((.slice Ao10 t640.length co10) : Value).ownBlock) v649 t648) ∧ Aside0 (Kd.Q (Kd.int .i64) 3 wc w.heap.size (fun k_ => some k_ ≠ (v649 : Value).ownBlock) (.slice Ao10 t640.length co10) t640) ∧ Aside0 (wc.heap[gb647]? = some (.cells #[.int .i64 t638,.int .i64 t639,(.slice Ao10 t640.length co10)] 51 (0,0))) ∧ Aside0 (Below w.heap.size w wc))
  case first =>
   have H:=HC6.out;clear HC6;replace H:=bS.mp H;obtain ⟨t651,A130,H⟩:=H;replace H : (if (t651 != (decide ((t648.length : Int) > 0))) = true then (laws_FnPlans.j0 k l0 t643 t644 t648 true t638 t639 t640) else ((impl_PlanDays.f k t638 t639 t640 t643 t644).bind fun t652 => (laws_FnPlans.j0 k l0 t643 t644 t648 (t652 != (wrap64 ((t648.length : Int) - 1))) t638 t639 t640))) = some r:=H;have A13:=am A130;clear A130
   by_cases c14 : (t651 != (decide ((t648.length : Int) > 0))) = true
   ·rw [if_pos c14] at H;rw [show decide ((t648.length : Int) > 0) = decide (0 < t648.length) from decide_eq_decide.2 (by omega)] at c14;have c14b0 : (t651 != (decide (0 < t648.length))) = true:=c14;(try (have c14b1 : decide (t651 = (decide (0 < t648.length))) = false:=by simpa using c14));(try (have c14b2 : (t651 == (decide (0 < t648.length))) = false:=by simpa using c14));(try (have c14b3 : ¬ (t651 = (decide (0 < t648.length))):=by simpa using c14));clear c14;(first | rw [c14b0] | (simp only [i64_w,i32_w];rw [c14b0]) | skip);have H':=am H;clear H;obtain ⟨hcz15_0,hcz15_1,hcz15_2,hfz15_0,hfz15_1,hfz15_2⟩:=bcl3 BK647.out;go_wp2_with (first | ((with_reducible refine gate_callee (f:=46) rfl ?_);refine goesL_ (some 30) rfl rfl Try.func46 (by kernel_rfl) rfl #[.agg #[.int .i64 t638,.int .i64 t639,.slice Ao10 t640.length co10],.int .i64 t643,.slice Ao11 t644.length co11] rfl qq177 ?_;(with_reducible refine (impl_IsPlan.calls k t638 t639 _ _ t640 t643 _ _ t644 t651 _ ?side1 ?side2 ?side3 ?side4 A13.out).mono ?_);(case side1 => exact qq134);(case side2 => exact qq306);(case side3 => exact qq132);(case side4 => exact qq303);rintro e w16 ⟨rfl,hb⟩;refine ⟨_,rfl,?_⟩;replace HO642:=am (Kd.Q_below qq194 hb);replace HO646:=am (Kd.R_below qq261 hb);replace HO650:=am (Kd.R_below qq260 hb);replace BK647:=am (blk_below (g:=gb647) (o:=.cells #[.int .i64 t638,.int .i64 t639,.slice Ao10 t640.length co10] 51 (0,0)) qq204 hb);replace HB:=am (below_step qq150 hb);(try clear hb);(try clear hb2);(try clear hk);(try clear hi);obtain ⟨Ao17,co17,eo17⟩:=Kd.R_slice HO650.out;subst eo17))
    go_meet
    case rel => exact ⟨_,(true),qq295,H',⟨qq298⟩,⟨qq261⟩,⟨qq187⟩,⟨qq178⟩,⟨qq204⟩,⟨qq150⟩⟩
   ·rw [if_neg c14] at H;rw [show decide ((t648.length : Int) > 0) = decide (0 < t648.length) from decide_eq_decide.2 (by omega)] at c14;have c14b0 : (t651 != (decide (0 < t648.length))) = false:=by simpa using c14
    (try (have c14b1 : decide (t651 = (decide (0 < t648.length))) = true:=by simpa using c14));(try (have c14b2 : (t651 == (decide (0 < t648.length))) = true:=by simpa using c14));clear c14;(first | rw [c14b0] | (simp only [i64_w,i32_w];rw [c14b0]) | skip);replace H:=bS.mp H;obtain ⟨t652,A180,H⟩:=H;replace H : (laws_FnPlans.j0 k l0 t643 t644 t648 (t652 != (wrap64 ((t648.length : Int) - 1))) t638 t639 t640) = some r:=H;have A18:=am A180;clear A180;have H':=am H;clear H;obtain ⟨hcz19_0,hcz19_1,hcz19_2,hfz19_0,hfz19_1,hfz19_2⟩:=bcl3 BK647.out;go_wp2_with (first | ((with_reducible refine gate_callee (f:=46) rfl ?_);refine goesL_ (some 30) rfl rfl Try.func46 (by kernel_rfl) rfl #[.agg #[.int .i64 t638,.int .i64 t639,.slice Ao10 t640.length co10],.int .i64 t643,.slice Ao11 t644.length co11] rfl qq177 ?_;(with_reducible refine (impl_IsPlan.calls k t638 t639 _ _ t640 t643 _ _ t644 t651 _ ?side1 ?side2 ?side3 ?side4 A13.out).mono ?_);(case side1 => exact qq134);(case side2 => exact qq306);(case side3 => exact qq132);(case side4 => exact qq303);rintro e w20 ⟨rfl,hb⟩;refine ⟨_,rfl,?_⟩;replace HO642:=am (Kd.Q_below qq194 hb);replace HO646:=am (Kd.R_below qq261 hb);replace HO650:=am (Kd.R_below qq260 hb);replace BK647:=am (blk_below (g:=gb647) (o:=.cells #[.int .i64 t638,.int .i64 t639,.slice Ao10 t640.length co10] 51 (0,0)) qq204 hb);replace HB:=am (below_step qq150 hb);(try clear hb);(try clear hb2);(try clear hk);(try clear hi);obtain ⟨Ao21,co21,eo21⟩:=Kd.R_slice HO650.out;subst eo21;obtain ⟨hcz22_0,hcz22_1,hcz22_2,hfz22_0,hfz22_1,hfz22_2⟩:=bcl3 BK647.out) | (go_at_call 47;(with_reducible refine (impl_PlanDays.calls k t638 t639 _ _ t640 t643 _ _ t644 t652 _ ?side1 ?side2 ?side3 ?side4 A18.out).mono ?_);(case side1 => exact qq134);(case side2 => exact qq306);(case side3 => exact qq132);(case side4 => exact qq303);rintro e w23 ⟨rfl,hb⟩;replace HO642:=am (Kd.Q_below qq194 hb);replace HO646:=am (Kd.R_below qq261 hb);replace HO650:=am (Kd.R_below qq260 hb);replace BK647:=am (blk_below (g:=gb647) (o:=.cells #[.int .i64 t638,.int .i64 t639,.slice Ao10 t640.length co10] 51 (0,0)) qq204 hb);replace HB:=am (below_step qq150 hb);(try clear hb);(try clear hb2);(try clear hk);(try clear hi)))
    go_meet
    case rel => exact ⟨_,((t652 != (wrap64 ((t648.length : Int) - 1)))),qq295,H',⟨qq298⟩,⟨qq261⟩,⟨qq187⟩,⟨qq178⟩,⟨qq204⟩,⟨qq150⟩⟩
  case rest =>
   clear HC6
   try clear c1
   try clear p2
   try clear c3
   try clear c4
   try clear c6
   try clear p6
   try clear c11
   try clear c14
   try clear c14b0
   try clear c14b1
   try clear c14b2
   try clear hcz15_0
   try clear hcz15_1
   try clear hcz15_2
   try clear hcz19_0
   try clear hcz19_1
   try clear hcz19_2
   try clear hcz22_0
   try clear hcz22_1
   try clear hcz22_2
   try clear hcz9_0
   try clear hcz9_1
   try clear hcz9_2
   try clear hfz15_0
   try clear hfz15_1
   try clear hfz15_2
   try clear hfz19_0
   try clear hfz19_1
   try clear hfz19_2
   try clear hfz22_0
   try clear hfz22_1
   try clear hfz22_2
   try clear hfz9_0
   try clear hfz9_1
   try clear hfz9_2
   obtain ⟨kq,x44_5,rfl,HA,HJ5,HO_5,HO_6,HO_648002,BK647,HB⟩:=hcut
   cases kq with
   | zero => exact absurd HA.out (by simp [laws_FnPlans.j0])
   | succ kj5 =>
    have H:=HA.out;clear HA;simp only [laws_FnPlans.j0] at H
    by_cases c24 : x44_5 = true
    ·subst c24;have H1 : (some false) = some r:=by rw [if_pos rfl] at H;exact H
     clear H;have H:=H1;clear H1;obtain rfl:=Option.some.inj H;go_wp2
     go_ret
     exact ⟨qq246,qq150⟩
    ·replace c24:=Bool.eq_false_iff.mpr c24;subst c24;have H1 : (laws_FnPlans.l0 kj5 l0 t643 t644 t648 1 t638 t639 t640) = some r:=by rw [if_neg (show ¬ (false = true) by decide)] at H;exact H
     clear H;have H:=H1;clear H1;have H':=am H;clear H;go_wp2
     go_loopg [7] kj5 (fun kq v7 w' => ∃ (x7_2 : Int),v7 = .int .i64 x7_2 ∧ Aside0 (laws_FnPlans.l0 kq l0 t643 t644 t648 x7_2 t638 t639 t640 = some r) ∧ Aside0 (kq ≤ kj5) ∧ Aside0 (Kd.R k76 76 w' w.heap.size (fun _ => True) (.slice Ao11 t644.length co11) t644) ∧ Aside0 (Kd.R (Kd.int .i64) 3 w' w.heap.size (fun k_ => some k_ ≠ ((.slice Ao10 t640.length co10) : Value).ownBlock) v649 t648) ∧ Aside0 (Kd.Q (Kd.int .i64) 3 w' w.heap.size (fun k_ => some k_ ≠ (v649 : Value).ownBlock) (.slice Ao10 t640.length co10) t640) ∧ Aside0 (w'.heap[gb647]? = some (.cells #[.int .i64 t638,.int .i64 t639,(.slice Ao10 t640.length co10)] 51 (0,0))) ∧ Aside0 (Below w.heap.size w w'))
     case atStart => exact ⟨(1),qq295,H',⟨Nat.le_refl _⟩,⟨qq285⟩,⟨qq284⟩,⟨qq190⟩,⟨qq204⟩,⟨qq150⟩⟩
     case round =>
      clear H'
      try clear c1
      try clear c2
      try clear p2
      try clear c3
      try clear c4
      try clear c6
      try clear p6
      try clear c11
      try clear c14
      try clear c14b0
      try clear c14b1
      try clear c14b2
      try clear c24
      try clear hcz15_0
      try clear hcz15_1
      try clear hcz15_2
      try clear hcz19_0
      try clear hcz19_1
      try clear hcz19_2
      try clear hcz22_0
      try clear hcz22_1
      try clear hcz22_2
      try clear hcz9_0
      try clear hcz9_1
      try clear hcz9_2
      try clear hfz15_0
      try clear hfz15_1
      try clear hfz15_2
      try clear hfz19_0
      try clear hfz19_1
      try clear hfz19_2
      try clear hfz22_0
      try clear hfz22_1
      try clear hfz22_2
      try clear hfz9_0
      try clear hfz9_1
      try clear hfz9_2
      try clear p2
      try clear p6
      obtain ⟨x7_2,rfl,HA,HK2,HO_5,HO_6,HO_648002,BK647,HB⟩:=hrel
      cases gk with
      | zero => exact absurd HA.out (by simp [laws_FnPlans.l0])
      | succ k2 =>
       have H:=HA.out;clear HA;simp only [laws_FnPlans.l0] at H
       by_cases c25 : x7_2 < (t648.length : Int)
       ·rw [if_pos c25] at H;have c25b0 : decide (x7_2 < (t648.length : Int)) = true:=decide_eq_true c25;clear c25;obtain ⟨ji26,hji26⟩ : ∃ j_ : Int,(wrap64 (x7_2 - 1)) = j_:=⟨_,rfl⟩
        replace H : (if 0 ≤ (ji26) then (if (ji26) < (t648.length : Int) then (if 0 ≤ x7_2 then ((impl_Apart.f k2 t638 t639 t640 (rd t648 (ji26)) (rd t648 x7_2)).bind fun t655 => (if t655 > 1 then (some false) else ((impl_IsOpen.f k2 t638 t639 t640 (rd t648 x7_2)).bind fun t657 => (if t657 = true then (laws_FnPlans.l0 k2 l0 t643 t644 t648 (wrap64 (x7_2 + 1)) t638 t639 t640) else (some false))))) else (none)) else (none)) else (none)) = some r:=by first | (rw [hji26] at H;exact H) | (simp only [hji26] at H ⊢;exact H)
        have hji26w : (IntKind.i64.wrap (x7_2 - 1)) = ji26:=(i64_w _).trans hji26
        by_cases c27 : 0 ≤ (ji26)
        ·rw [if_pos c27] at H;have c27b0 : decide (0 ≤ (ji26)) = true:=decide_eq_true c27;clear c27
         by_cases c28 : (ji26) < (t648.length : Int)
         ·rw [if_pos c28] at H;have c28b0 : decide ((ji26) < (t648.length : Int)) = true:=decide_eq_true c28;clear c28
          by_cases c29 : 0 ≤ x7_2
          ·rw [if_pos c29] at H;have c29b0 : decide (0 ≤ x7_2) = true:=decide_eq_true c29;clear c29;replace H:=bS.mp H;obtain ⟨t655,A300,H⟩:=H;replace H : (if t655 > 1 then (some false) else ((impl_IsOpen.f k2 t638 t639 t640 (rd t648 x7_2)).bind fun t657 => (if t657 = true then (laws_FnPlans.l0 k2 l0 t643 t644 t648 (wrap64 (x7_2 + 1)) t638 t639 t640) else (some false)))) = some r:=H;have A30:=am A300;clear A300
           by_cases c31 : t655 > 1
           ·rw [if_pos c31] at H;have c31b0 : decide (1 < t655) = true:=decide_eq_true c31;clear c31;obtain rfl:=Option.some.inj H;obtain ⟨Ao32,co32,eo32⟩:=Kd.R_slice HO_6.out;subst eo32
            try go_wp2
            replace HO_5:=am (Kd.R_drew HO_5.out);replace HO_6:=am (Kd.R_drew HO_6.out);replace HO_648002:=am (Kd.Q_drew HO_648002.out);replace BK647:=am (blk_drew BK647.out);replace HB:=am (below_drew1 HB.out);have p653 : 0 ≤ ((ji26) : Int):=odt qq293;have q653 : (ji26) < (t648.length : Int):=odt qq293;obtain ⟨ad653,e653,hx653_0⟩:=Kd.at_int (Kd.R_reads' HO_6.out).2.2 (ji26) p653 q653
            cases e653
            replace p653:=eq_true p653;replace q653:=eq_true q653;have p654 : 0 ≤ (x7_2 : Int):=odt qq293;have q654 : x7_2 < (t648.length : Int):=odt qq293;obtain ⟨ad654,e654,hx654_0⟩:=Kd.at_int (Kd.R_reads' HO_6.out).2.2 x7_2 p654 q654;obtain rfl : ad653 = ad654:=(by injection e654)
            replace p654:=eq_true p654;replace q654:=eq_true q654;refine start_ (n:=21) (S:=fun w' => w'.cell? ⟨gb647,0,none⟩ = some (.int .i64 t638) ∧ w'.cell? ⟨gb647,1,none⟩ = some (.int .i64 t639) ∧ w'.cell? ⟨gb647,2,none⟩ = some (.slice Ao10 t640.length co10) ∧ w'.cell? (ad653.add ((ji26)).toNat) = some (.int .i64 (rd t648 (ji26))) ∧ w'.cell? (ad653.add (x7_2).toNat) = some (.int .i64 (rd t648 x7_2))) (ds:=[]) m0_19 (by kernel_rfl) rfl rfl ⟨(blk_cell BK647.out 0).trans rfl,(blk_cell BK647.out 1).trans rfl,(blk_cell BK647.out 2).trans rfl,hx653_0,hx654_0⟩ (fun hHeld => ?_);refine with_tabW laws_FnPlans.tab10 laws_FnPlans.bits10 (fun HT_ HW_ => ?_)
            generalize wr.drew = w33 at HO_5 HO_6 HO_648002 BK647 HB hx653_0 hx654_0 hHeld ⊢
            refine pV (i:=1) (N:=some 52) m1_19 rfl rfl qT ?_
            refine pV (i:=2) (N:=some 53) m2_19 rfl rfl qT ?_
            refine pV (i:=3) (N:=some 54) m3_19 rfl rfl qT ?_
            refine pV (i:=4) (N:=some 55) m4_19 rfl rfl qT ?_
            refine pV (i:=6) (N:=some 57) m5_19 rfl rfl qT ?_
            refine pV (i:=7) (N:=some 58) m6_19 rfl rfl qT ?_
            refine pV (i:=8) (N:=some 59) m7_19 rfl rfl qT ?_
            refine tV5 (i:=0) (N:=some 51) m8_19 rfl rfl (take_ofW HT_.out HW_.out (by kernel_rfl)) hHeld ?_
            refine tV5 (i:=5) (N:=some 56) m9_19 rfl rfl (take_ofW HT_.out HW_.out (by kernel_rfl)) hHeld ?_
            refine tV5 (i:=9) (N:=some 60) m10_19 rfl rfl (take_ofW HT_.out HW_.out (by kernel_rfl)) hHeld ?_
            refine one_ (i:=10) (N:=some 61) m11_19 rfl rfl (one_of HT_.out (by kernel_rfl)) (by decide) (fun K hK => ?_);refine goes_ Try.func48 (by kernel_rfl) rfl #[.agg #[.int .i64 t638,.int .i64 t639,.slice Ao10 t640.length co10],.int .i64 (rd t648 (ji26)),.int .i64 (rd t648 x7_2)] (by rfl) rfl rfl qq125 ?_;with_reducible refine (impl_Apart.calls k2 t638 t639 _ _ t640 (rd t648 (ji26)) (rd t648 x7_2) t655 _ ?side1 ?side2 A30.out).mono ?_
            (case side1 => exact qq129);(case side2 => exact qq297)
            rintro e w34 ⟨rfl,hb⟩
            have HS3_:=(hb.cell (bl _ _ (hHeld.2.2.2.1))).trans (hHeld.2.2.2.1);have HS4_:=(hb.cell (bl _ _ (hHeld.2.2.2.2))).trans (hHeld.2.2.2.2);refine ⟨_,rfl,?_⟩;replace HO_5:=am (Kd.R_below qq285 hb);replace HO_6:=am (Kd.R_below qq284 hb);replace HO_648002:=am (Kd.Q_below qq190 hb);replace BK647:=am (blk_below (g:=gb647) (o:=.cells #[.int .i64 t638,.int .i64 t639,.slice Ao10 t640.length co10] 51 (0,0)) qq204 hb);replace HB:=am (below_step qq150 hb);(try clear hb);(try clear hb2);(try clear hk);(try clear hi);refine hK.out _ _ ⟨(blk_cell BK647.out 0).trans rfl,(blk_cell BK647.out 1).trans rfl,(blk_cell BK647.out 2).trans rfl,HS3_,HS4_⟩ (fun hHeld => ?_);clear hK K;refine norm_ (a':=?_) ?_ ?_;rotate_left
            ·show Act.put _ (some 61) _ = _
             simp only [Act.put,sA,s0,s1,i64_w,i32_w];rfl
            refine pV (i:=11) (N:=some 62) m12_19 rfl rfl qT ?_
            refine pV (i:=12) (N:=some 63) m13_19 rfl rfl qT ?_
            refine pW (i:=13) (N:=some 64) #[Y,Y,Y,Y,Y,Y,Y,Y,Y,Y,Y,Y,Y,Y,Z,Z,Z,Z,Z,Z,Z] rfl rfl qT ?_
            refine pW (i:=14) (N:=some 65) #[Y,Y,Y,Y,Y,Y,Y,Y,Y,Y,Y,Y,Y,Y,Y,Z,Z,Z,Z,Z,Z] rfl rfl qT ?_
            refine pW (i:=15) (N:=some 66) #[Y,Y,Y,Y,Y,Y,Y,Y,Y,Y,Y,Y,Y,Y,Y,Y,Z,Z,Z,Z,Z] rfl rfl qT ?_
            refine pW (i:=16) (N:=some 67) m14_19 rfl rfl qT ?_
            refine pW (i:=17) (N:=some 68) m15_19 rfl rfl qT ?_
            refine pW (i:=18) (N:=some 69) m16_19 rfl rfl qT ?_
            refine pW (i:=19) (N:=some 70) m17_19 rfl rfl qT ?_
            refine pV (i:=20) (N:=some 71) m18_19 rfl rfl qT ?_
            refine done_ (done_of HT_.out (by kernel_rfl)) ?_
            try go_wp2
            go_ret
            exact ⟨qq122,qq150⟩
           ·rw [if_neg c31] at H;have c31b0 : decide (1 < t655) = false:=decide_eq_false c31;clear c31;replace H:=bS.mp H;obtain ⟨t657,A350,H⟩:=H;replace H : (if t657 = true then (laws_FnPlans.l0 k2 l0 t643 t644 t648 (wrap64 (x7_2 + 1)) t638 t639 t640) else (some false)) = some r:=H;have A35:=am A350;clear A350
            by_cases c36 : t657 = true
            ·subst c36;have H1 : (laws_FnPlans.l0 k2 l0 t643 t644 t648 (wrap64 (x7_2 + 1)) t638 t639 t640) = some r:=by rw [if_pos rfl] at H;exact H
             clear H;have H:=H1;clear H1;have H':=am H;clear H;obtain ⟨Ao37,co37,eo37⟩:=Kd.R_slice HO_6.out;subst eo37
             try go_wp2
             replace HO_5:=am (Kd.R_drew HO_5.out);replace HO_6:=am (Kd.R_drew HO_6.out);replace HO_648002:=am (Kd.Q_drew HO_648002.out);replace BK647:=am (blk_drew BK647.out);replace HB:=am (below_drew1 HB.out);have p653 : 0 ≤ ((ji26) : Int):=odt qq293;have q653 : (ji26) < (t648.length : Int):=odt qq293;obtain ⟨ad653,e653,hx653_0⟩:=Kd.at_int (Kd.R_reads' HO_6.out).2.2 (ji26) p653 q653
             cases e653
             replace p653:=eq_true p653;replace q653:=eq_true q653;have p654 : 0 ≤ (x7_2 : Int):=odt qq293;have q654 : x7_2 < (t648.length : Int):=odt qq293;obtain ⟨ad654,e654,hx654_0⟩:=Kd.at_int (Kd.R_reads' HO_6.out).2.2 x7_2 p654 q654;obtain rfl : ad653 = ad654:=(by injection e654)
             replace p654:=eq_true p654;replace q654:=eq_true q654;have p656 : 0 ≤ (x7_2 : Int):=odt qq293;have q656 : x7_2 < (t648.length : Int):=odt qq293;obtain ⟨ad656,e656,hx656_0⟩:=Kd.at_int (Kd.R_reads' HO_6.out).2.2 x7_2 p656 q656;obtain rfl : ad653 = ad656:=(by injection e656)
             replace p656:=eq_true p656;replace q656:=eq_true q656;refine start_ (n:=21) (S:=fun w' => w'.cell? ⟨gb647,0,none⟩ = some (.int .i64 t638) ∧ w'.cell? ⟨gb647,1,none⟩ = some (.int .i64 t639) ∧ w'.cell? ⟨gb647,2,none⟩ = some (.slice Ao10 t640.length co10) ∧ w'.cell? (ad653.add ((ji26)).toNat) = some (.int .i64 (rd t648 (ji26))) ∧ w'.cell? (ad653.add (x7_2).toNat) = some (.int .i64 (rd t648 x7_2)) ∧ w'.cell? (ad653.add (x7_2).toNat) = some (.int .i64 (rd t648 x7_2))) (ds:=[]) m0_19 (by kernel_rfl) rfl rfl ⟨(blk_cell BK647.out 0).trans rfl,(blk_cell BK647.out 1).trans rfl,(blk_cell BK647.out 2).trans rfl,hx653_0,hx654_0,hx656_0⟩ (fun hHeld => ?_);refine with_tabW laws_FnPlans.tab10 laws_FnPlans.bits10 (fun HT_ HW_ => ?_)
             generalize wr.drew = w38 at HO_5 HO_6 HO_648002 BK647 HB hx653_0 hx654_0 hx656_0 hHeld ⊢
             refine pV (i:=1) (N:=some 52) m1_19 rfl rfl qT ?_
             refine pV (i:=2) (N:=some 53) m2_19 rfl rfl qT ?_
             refine pV (i:=3) (N:=some 54) m3_19 rfl rfl qT ?_
             refine pV (i:=4) (N:=some 55) m4_19 rfl rfl qT ?_
             refine pV (i:=6) (N:=some 57) m5_19 rfl rfl qT ?_
             refine pV (i:=7) (N:=some 58) m6_19 rfl rfl qT ?_
             refine pV (i:=8) (N:=some 59) m7_19 rfl rfl qT ?_
             refine tV6 (i:=0) (N:=some 51) m8_19 rfl rfl (take_ofW HT_.out HW_.out (by kernel_rfl)) hHeld ?_
             refine tV6 (i:=5) (N:=some 56) m9_19 rfl rfl (take_ofW HT_.out HW_.out (by kernel_rfl)) hHeld ?_
             refine tV6 (i:=9) (N:=some 60) m10_19 rfl rfl (take_ofW HT_.out HW_.out (by kernel_rfl)) hHeld ?_
             refine one_ (i:=10) (N:=some 61) m11_19 rfl rfl (one_of HT_.out (by kernel_rfl)) (by decide) (fun K hK => ?_);refine goes_ Try.func48 (by kernel_rfl) rfl #[.agg #[.int .i64 t638,.int .i64 t639,.slice Ao10 t640.length co10],.int .i64 (rd t648 (ji26)),.int .i64 (rd t648 x7_2)] (by rfl) rfl rfl qq125 ?_;with_reducible refine (impl_Apart.calls k2 t638 t639 _ _ t640 (rd t648 (ji26)) (rd t648 x7_2) t655 _ ?side1 ?side2 A30.out).mono ?_
             (case side1 => exact qq129);(case side2 => exact qq297)
             rintro e w39 ⟨rfl,hb⟩
             have HS3_:=(hb.cell (bl _ _ (hHeld.2.2.2.1))).trans (hHeld.2.2.2.1);have HS4_:=(hb.cell (bl _ _ (hHeld.2.2.2.2.1))).trans (hHeld.2.2.2.2.1);have HS5_:=(hb.cell (bl _ _ (hHeld.2.2.2.2.2))).trans (hHeld.2.2.2.2.2);refine ⟨_,rfl,?_⟩;replace HO_5:=am (Kd.R_below qq285 hb);replace HO_6:=am (Kd.R_below qq284 hb);replace HO_648002:=am (Kd.Q_below qq190 hb);replace BK647:=am (blk_below (g:=gb647) (o:=.cells #[.int .i64 t638,.int .i64 t639,.slice Ao10 t640.length co10] 51 (0,0)) qq204 hb);replace HB:=am (below_step qq150 hb);(try clear hb);(try clear hb2);(try clear hk);(try clear hi);refine hK.out _ _ ⟨(blk_cell BK647.out 0).trans rfl,(blk_cell BK647.out 1).trans rfl,(blk_cell BK647.out 2).trans rfl,HS3_,HS4_,HS5_⟩ (fun hHeld => ?_);clear hK K;refine norm_ (a':=?_) ?_ ?_;rotate_left
             ·show Act.put _ (some 61) _ = _
              simp only [Act.put,sA,s0,s1,i64_w,i32_w];rfl
             refine pV (i:=11) (N:=some 62) m12_19 rfl rfl qT ?_
             refine pV (i:=12) (N:=some 63) m13_19 rfl rfl qT ?_
             refine pV (i:=14) (N:=some 65) #[Y,Y,Y,Y,Y,Y,Y,Y,Y,Y,Y,Y,Y,Z,Y,Z,Z,Z,Z,Z,Z] rfl rfl qT ?_
             refine pV (i:=15) (N:=some 66) #[Y,Y,Y,Y,Y,Y,Y,Y,Y,Y,Y,Y,Y,Z,Y,Y,Z,Z,Z,Z,Z] rfl rfl qT ?_
             refine pV (i:=16) (N:=some 67) #[Y,Y,Y,Y,Y,Y,Y,Y,Y,Y,Y,Y,Y,Z,Y,Y,Y,Z,Z,Z,Z] rfl rfl qT ?_
             refine tV6 (i:=13) (N:=some 64) m14_19 rfl rfl (take_ofW HT_.out HW_.out (by kernel_rfl)) hHeld ?_
             refine tV6 (i:=17) (N:=some 68) m15_19 rfl rfl (take_ofW HT_.out HW_.out (by kernel_rfl)) hHeld ?_
             refine one_ (i:=18) (N:=some 69) m16_19 rfl rfl (one_of HT_.out (by kernel_rfl)) (by decide) (fun K hK => ?_);refine goes_ Try.func49 (by kernel_rfl) rfl #[.agg #[.int .i64 t638,.int .i64 t639,.slice Ao10 t640.length co10],.int .i64 (rd t648 x7_2)] (by rfl) rfl rfl qq177 ?_;with_reducible refine (impl_IsOpen.calls k2 t638 t639 _ _ t640 (rd t648 x7_2) true _ ?side1 ?side2 A35.out).mono ?_
             (case side1 => exact qq129);(case side2 => exact qq297)
             rintro e w40 ⟨rfl,hb⟩
             have HS3_:=(hb.cell (bl _ _ (hHeld.2.2.2.1))).trans (hHeld.2.2.2.1);have HS4_:=(hb.cell (bl _ _ (hHeld.2.2.2.2.1))).trans (hHeld.2.2.2.2.1);have HS5_:=(hb.cell (bl _ _ (hHeld.2.2.2.2.2))).trans (hHeld.2.2.2.2.2);refine ⟨_,rfl,?_⟩;replace HO_5:=am (Kd.R_below qq285 hb);replace HO_6:=am (Kd.R_below qq284 hb);replace HO_648002:=am (Kd.Q_below qq190 hb);replace BK647:=am (blk_below (g:=gb647) (o:=.cells #[.int .i64 t638,.int .i64 t639,.slice Ao10 t640.length co10] 51 (0,0)) qq204 hb);replace HB:=am (below_step qq150 hb);(try clear hb);(try clear hb2);(try clear hk);(try clear hi);refine hK.out _ _ ⟨(blk_cell BK647.out 0).trans rfl,(blk_cell BK647.out 1).trans rfl,(blk_cell BK647.out 2).trans rfl,HS3_,HS4_,HS5_⟩ (fun hHeld => ?_);clear hK K;refine norm_ (a':=?_) ?_ ?_;rotate_left
             ·show Act.put _ (some 69) _ = _
              simp only [Act.put,sA,s0,s1,i64_w,i32_w];rfl
             refine pV (i:=19) (N:=some 70) m17_19 rfl rfl qT ?_
             refine pV (i:=20) (N:=some 71) m18_19 rfl rfl qT ?_
             refine done_ (done_of HT_.out (by kernel_rfl)) ?_
             try go_wp2
             go_roundg k2
             case measure => have:=HJ5.out;have:=HK2.out;omega
             case rel => exact ⟨(wrap64 (x7_2 + 1)),qq295,H',⟨by have:=HJ5.out;have:=HK2.out;omega⟩,⟨qq285⟩,⟨qq284⟩,⟨qq190⟩,⟨qq204⟩,⟨qq150⟩⟩
            ·replace c36:=Bool.eq_false_iff.mpr c36;subst c36;have H1 : (some false) = some r:=by rw [if_neg (show ¬ (false = true) by decide)] at H;exact H
             clear H;have H:=H1;clear H1;obtain rfl:=Option.some.inj H;obtain ⟨Ao41,co41,eo41⟩:=Kd.R_slice HO_6.out;subst eo41
             try go_wp2
             replace HO_5:=am (Kd.R_drew HO_5.out);replace HO_6:=am (Kd.R_drew HO_6.out);replace HO_648002:=am (Kd.Q_drew HO_648002.out);replace BK647:=am (blk_drew BK647.out);replace HB:=am (below_drew1 HB.out);have p653 : 0 ≤ ((ji26) : Int):=odt qq293;have q653 : (ji26) < (t648.length : Int):=odt qq293;obtain ⟨ad653,e653,hx653_0⟩:=Kd.at_int (Kd.R_reads' HO_6.out).2.2 (ji26) p653 q653
             cases e653
             replace p653:=eq_true p653;replace q653:=eq_true q653;have p654 : 0 ≤ (x7_2 : Int):=odt qq293;have q654 : x7_2 < (t648.length : Int):=odt qq293;obtain ⟨ad654,e654,hx654_0⟩:=Kd.at_int (Kd.R_reads' HO_6.out).2.2 x7_2 p654 q654;obtain rfl : ad653 = ad654:=(by injection e654)
             replace p654:=eq_true p654;replace q654:=eq_true q654;have p656 : 0 ≤ (x7_2 : Int):=odt qq293;have q656 : x7_2 < (t648.length : Int):=odt qq293;obtain ⟨ad656,e656,hx656_0⟩:=Kd.at_int (Kd.R_reads' HO_6.out).2.2 x7_2 p656 q656;obtain rfl : ad653 = ad656:=(by injection e656)
             replace p656:=eq_true p656;replace q656:=eq_true q656;refine start_ (n:=21) (S:=fun w' => w'.cell? ⟨gb647,0,none⟩ = some (.int .i64 t638) ∧ w'.cell? ⟨gb647,1,none⟩ = some (.int .i64 t639) ∧ w'.cell? ⟨gb647,2,none⟩ = some (.slice Ao10 t640.length co10) ∧ w'.cell? (ad653.add ((ji26)).toNat) = some (.int .i64 (rd t648 (ji26))) ∧ w'.cell? (ad653.add (x7_2).toNat) = some (.int .i64 (rd t648 x7_2)) ∧ w'.cell? (ad653.add (x7_2).toNat) = some (.int .i64 (rd t648 x7_2))) (ds:=[]) m0_19 (by kernel_rfl) rfl rfl ⟨(blk_cell BK647.out 0).trans rfl,(blk_cell BK647.out 1).trans rfl,(blk_cell BK647.out 2).trans rfl,hx653_0,hx654_0,hx656_0⟩ (fun hHeld => ?_);refine with_tabW laws_FnPlans.tab10 laws_FnPlans.bits10 (fun HT_ HW_ => ?_)
             generalize wr.drew = w42 at HO_5 HO_6 HO_648002 BK647 HB hx653_0 hx654_0 hx656_0 hHeld ⊢
             refine pV (i:=1) (N:=some 52) m1_19 rfl rfl qT ?_
             refine pV (i:=2) (N:=some 53) m2_19 rfl rfl qT ?_
             refine pV (i:=3) (N:=some 54) m3_19 rfl rfl qT ?_
             refine pV (i:=4) (N:=some 55) m4_19 rfl rfl qT ?_
             refine pV (i:=6) (N:=some 57) m5_19 rfl rfl qT ?_
             refine pV (i:=7) (N:=some 58) m6_19 rfl rfl qT ?_
             refine pV (i:=8) (N:=some 59) m7_19 rfl rfl qT ?_
             refine tV6 (i:=0) (N:=some 51) m8_19 rfl rfl (take_ofW HT_.out HW_.out (by kernel_rfl)) hHeld ?_
             refine tV6 (i:=5) (N:=some 56) m9_19 rfl rfl (take_ofW HT_.out HW_.out (by kernel_rfl)) hHeld ?_
             refine tV6 (i:=9) (N:=some 60) m10_19 rfl rfl (take_ofW HT_.out HW_.out (by kernel_rfl)) hHeld ?_
             refine one_ (i:=10) (N:=some 61) m11_19 rfl rfl (one_of HT_.out (by kernel_rfl)) (by decide) (fun K hK => ?_);refine goes_ Try.func48 (by kernel_rfl) rfl #[.agg #[.int .i64 t638,.int .i64 t639,.slice Ao10 t640.length co10],.int .i64 (rd t648 (ji26)),.int .i64 (rd t648 x7_2)] (by rfl) rfl rfl qq125 ?_;with_reducible refine (impl_Apart.calls k2 t638 t639 _ _ t640 (rd t648 (ji26)) (rd t648 x7_2) t655 _ ?side1 ?side2 A30.out).mono ?_
             (case side1 => exact qq129);(case side2 => exact qq297)
             rintro e w43 ⟨rfl,hb⟩
             have HS3_:=(hb.cell (bl _ _ (hHeld.2.2.2.1))).trans (hHeld.2.2.2.1);have HS4_:=(hb.cell (bl _ _ (hHeld.2.2.2.2.1))).trans (hHeld.2.2.2.2.1);have HS5_:=(hb.cell (bl _ _ (hHeld.2.2.2.2.2))).trans (hHeld.2.2.2.2.2);refine ⟨_,rfl,?_⟩;replace HO_5:=am (Kd.R_below qq285 hb);replace HO_6:=am (Kd.R_below qq284 hb);replace HO_648002:=am (Kd.Q_below qq190 hb);replace BK647:=am (blk_below (g:=gb647) (o:=.cells #[.int .i64 t638,.int .i64 t639,.slice Ao10 t640.length co10] 51 (0,0)) qq204 hb);replace HB:=am (below_step qq150 hb);(try clear hb);(try clear hb2);(try clear hk);(try clear hi);refine hK.out _ _ ⟨(blk_cell BK647.out 0).trans rfl,(blk_cell BK647.out 1).trans rfl,(blk_cell BK647.out 2).trans rfl,HS3_,HS4_,HS5_⟩ (fun hHeld => ?_);clear hK K;refine norm_ (a':=?_) ?_ ?_;rotate_left
             ·show Act.put _ (some 61) _ = _
              simp only [Act.put,sA,s0,s1,i64_w,i32_w];rfl
             refine pV (i:=11) (N:=some 62) m12_19 rfl rfl qT ?_
             refine pV (i:=12) (N:=some 63) m13_19 rfl rfl qT ?_
             refine pV (i:=14) (N:=some 65) #[Y,Y,Y,Y,Y,Y,Y,Y,Y,Y,Y,Y,Y,Z,Y,Z,Z,Z,Z,Z,Z] rfl rfl qT ?_
             refine pV (i:=15) (N:=some 66) #[Y,Y,Y,Y,Y,Y,Y,Y,Y,Y,Y,Y,Y,Z,Y,Y,Z,Z,Z,Z,Z] rfl rfl qT ?_
             refine pV (i:=16) (N:=some 67) #[Y,Y,Y,Y,Y,Y,Y,Y,Y,Y,Y,Y,Y,Z,Y,Y,Y,Z,Z,Z,Z] rfl rfl qT ?_
             refine tV6 (i:=13) (N:=some 64) m14_19 rfl rfl (take_ofW HT_.out HW_.out (by kernel_rfl)) hHeld ?_
             refine tV6 (i:=17) (N:=some 68) m15_19 rfl rfl (take_ofW HT_.out HW_.out (by kernel_rfl)) hHeld ?_
             refine one_ (i:=18) (N:=some 69) m16_19 rfl rfl (one_of HT_.out (by kernel_rfl)) (by decide) (fun K hK => ?_);refine goes_ Try.func49 (by kernel_rfl) rfl #[.agg #[.int .i64 t638,.int .i64 t639,.slice Ao10 t640.length co10],.int .i64 (rd t648 x7_2)] (by rfl) rfl rfl qq177 ?_;with_reducible refine (impl_IsOpen.calls k2 t638 t639 _ _ t640 (rd t648 x7_2) false _ ?side1 ?side2 A35.out).mono ?_
             (case side1 => exact qq129);(case side2 => exact qq297)
             rintro e w44 ⟨rfl,hb⟩
             have HS3_:=(hb.cell (bl _ _ (hHeld.2.2.2.1))).trans (hHeld.2.2.2.1);have HS4_:=(hb.cell (bl _ _ (hHeld.2.2.2.2.1))).trans (hHeld.2.2.2.2.1);have HS5_:=(hb.cell (bl _ _ (hHeld.2.2.2.2.2))).trans (hHeld.2.2.2.2.2);refine ⟨_,rfl,?_⟩;replace HO_5:=am (Kd.R_below qq285 hb);replace HO_6:=am (Kd.R_below qq284 hb);replace HO_648002:=am (Kd.Q_below qq190 hb);replace BK647:=am (blk_below (g:=gb647) (o:=.cells #[.int .i64 t638,.int .i64 t639,.slice Ao10 t640.length co10] 51 (0,0)) qq204 hb);replace HB:=am (below_step qq150 hb);(try clear hb);(try clear hb2);(try clear hk);(try clear hi);refine hK.out _ _ ⟨(blk_cell BK647.out 0).trans rfl,(blk_cell BK647.out 1).trans rfl,(blk_cell BK647.out 2).trans rfl,HS3_,HS4_,HS5_⟩ (fun hHeld => ?_);clear hK K;refine norm_ (a':=?_) ?_ ?_;rotate_left
             ·show Act.put _ (some 69) _ = _
              simp only [Act.put,sA,s0,s1,i64_w,i32_w];rfl
             refine pV (i:=19) (N:=some 70) m17_19 rfl rfl qT ?_
             refine pV (i:=20) (N:=some 71) m18_19 rfl rfl qT ?_
             refine done_ (done_of HT_.out (by kernel_rfl)) ?_
             try go_wp2
             go_ret
             exact ⟨qq122,qq150⟩
          ·rw [if_neg c29] at H;exact absurd H (by simp)
         ·rw [if_neg c28] at H;exact absurd H (by simp)
        ·rw [if_neg c27] at H;exact absurd H (by simp)
       ·rw [if_neg c25] at H;have c25b0 : decide (x7_2 < (t648.length : Int)) = false:=decide_eq_false c25;clear c25;have HC45:=am H;clear H;obtain ⟨Ao46,co46,eo46⟩:=Kd.R_slice HO_6.out;subst eo46
        go_upto_region 12 with (fail)
        go_cut [79] (fun v79 wc => ∃ (kq : Nat) (x79_44 : Bool),v79 = .bool x79_44 ∧ Aside0 (laws_FnPlans.j2 kq l0 t643 t644 t648 x79_44 t638 t639 t640 = some r) ∧ Aside0 (kq ≤ k2) ∧ Aside0 (Kd.R k76 76 wc w.heap.size (fun _ => True) (.slice Ao11 t644.length co11) t644) ∧ Aside0 (Kd.R (Kd.int .i64) 3 wc w.heap.size (fun k_ => some k_ ≠ ((.slice Ao10 t640.length co10) : Value).ownBlock) (.slice Ao46 t648.length co46) t648) ∧ Aside0 (Kd.Q (Kd.int .i64) 3 wc w.heap.size (fun k_ => some k_ ≠ ((.slice Ao46 t648.length co46) : Value).ownBlock) (.slice Ao10 t640.length co10) t640) ∧ Aside0 (wc.heap[gb647]? = some (.cells #[.int .i64 t638,.int .i64 t639,(.slice Ao10 t640.length co10)] 51 (0,0))) ∧ Aside0 (Below w.heap.size w wc))
        case first =>
         have H:=HC45.out;clear HC45
         by_cases c47 : (t648.length : Int) > 0
         ·rw [if_pos c47] at H;have c47b0 : decide (0 < (t648.length : Int)) = true:=decide_eq_true c47;have c47b1 : decide (0 < t648.length) = true:=decide_eq_true (by omega);clear c47;(first | rw [c47b0] | (simp only [i64_w,i32_w];rw [c47b0]) | skip);have H':=am H;clear H;go_wp2
          go_meet
          case rel => exact ⟨_,(decide ((t644.length : Int) > 0)),qq295,H',⟨qq289⟩,⟨qq285⟩,⟨qq284⟩,⟨qq190⟩,⟨qq204⟩,⟨qq150⟩⟩
         ·rw [if_neg c47] at H;have c47b0 : decide (0 < (t648.length : Int)) = false:=decide_eq_false c47;have c47b1 : decide (0 < t648.length) = false:=decide_eq_false (by omega);clear c47;(first | rw [c47b0] | (simp only [i64_w,i32_w];rw [c47b0]) | skip);have H':=am H;clear H;go_wp2
          go_meet
          case rel => exact ⟨_,(false),qq295,H',⟨qq289⟩,⟨qq285⟩,⟨qq284⟩,⟨qq190⟩,⟨qq204⟩,⟨qq150⟩⟩
        case rest =>
         clear HC45
         try clear c2
         try clear p2
         try clear c3
         try clear c4
         try clear p6
         try clear q6
         try clear hx6
         try clear c25
         try clear c25b0
         try clear c27
         try clear c28
         try clear c29
         try clear c36
         try clear c47
         try clear c47b0
         try clear c47b1
         try clear hx653_0
         try clear hx654_0
         try clear hx656_0
         try clear p653
         try clear p654
         try clear p656
         try clear q653
         try clear q654
         try clear q656
         obtain ⟨kq,x79_44,rfl,HA,HJ44,HO_5,HO_6,HO_648002,BK647,HB⟩:=hcut
         cases kq with
         | zero => exact absurd HA.out (by simp [laws_FnPlans.j2])
         | succ kj44 =>
          have H:=HA.out;clear HA;simp only [laws_FnPlans.j2] at H;have HC48:=am H;clear H
          go_upto_if 79 with (fail)
          go_cut [] (fun wc => ∃ (kq : Nat),Aside0 (laws_FnPlans.j4 kq l0 = some r) ∧ Aside0 (kq ≤ kj44) ∧ Aside0 (Kd.Q (Kd.int .i64) 3 wc w.heap.size (fun _ => True) (.slice Ao10 t640.length co10) t640) ∧ Aside0 (wc.heap[gb647]? = some (.cells #[.int .i64 t638,.int .i64 t639,(.slice Ao10 t640.length co10)] 51 (0,0))) ∧ Aside0 (Below w.heap.size w wc))
          case first =>
           have H:=HC48.out;clear HC48
           by_cases c49 : x79_44 = true
           ·subst c49;have H1 : (if 0 ≤ (wrap64 ((t644.length : Int) - 1)) then (if (wrap64 ((t644.length : Int) - 1)) < (t644.length : Int) then ((impl_BackPlan.f kj44 t643 t644).bind fun t659 => ((impl_PlanCells.f kj44 t638 t639 t640 ((rd_T76 t644 (wrap64 ((t644.length : Int) - 1))).f0) t659).bind fun t662 => (if 0 ≤ (wrap64 ((t648.length : Int) - 1)) then (if (wrap64 ((t648.length : Int) - 1)) < (t648.length : Int) then (if (rd t648 (wrap64 ((t648.length : Int) - 1))) = ((rd_T76 t644 (wrap64 ((t644.length : Int) - 1))).f0) then (if (t662.length : Int) = 0 then (laws_FnPlans.j3 kj44 l0 true) else (if 0 ≤ (wrap64 ((t662.length : Int) - 1)) then (if (wrap64 ((t662.length : Int) - 1)) < (t662.length : Int) then (laws_FnPlans.j3 kj44 l0 ((rd t662 (wrap64 ((t662.length : Int) - 1))) != t643)) else (none)) else (none))) else (laws_FnPlans.j3 kj44 l0 true)) else (none)) else (none)))) else (none)) else (none)) = some r:=by rw [if_pos rfl] at H;exact H
            clear H;have H:=H1;clear H1;obtain ⟨ji50,hji50⟩ : ∃ j_ : Int,(wrap64 ((t644.length : Int) - 1)) = j_:=⟨_,rfl⟩
            replace H : (if 0 ≤ (ji50) then (if (ji50) < (t644.length : Int) then ((impl_BackPlan.f kj44 t643 t644).bind fun t659 => ((impl_PlanCells.f kj44 t638 t639 t640 ((rd_T76 t644 (ji50)).f0) t659).bind fun t662 => (if 0 ≤ (wrap64 ((t648.length : Int) - 1)) then (if (wrap64 ((t648.length : Int) - 1)) < (t648.length : Int) then (if (rd t648 (wrap64 ((t648.length : Int) - 1))) = ((rd_T76 t644 (ji50)).f0) then (if (t662.length : Int) = 0 then (laws_FnPlans.j3 kj44 l0 true) else (if 0 ≤ (wrap64 ((t662.length : Int) - 1)) then (if (wrap64 ((t662.length : Int) - 1)) < (t662.length : Int) then (laws_FnPlans.j3 kj44 l0 ((rd t662 (wrap64 ((t662.length : Int) - 1))) != t643)) else (none)) else (none))) else (laws_FnPlans.j3 kj44 l0 true)) else (none)) else (none)))) else (none)) else (none)) = some r:=by first | (rw [hji50] at H;exact H) | (simp only [hji50] at H ⊢;exact H)
            have hji50w : (IntKind.i64.wrap ((t644.length : Int) - 1)) = ji50:=(i64_w _).trans hji50
            by_cases c51 : 0 ≤ (ji50)
            ·rw [if_pos c51] at H;have c51b0 : decide (0 ≤ (ji50)) = true:=decide_eq_true c51;clear c51;(first | rw [c51b0] | (simp only [i64_w,i32_w];rw [c51b0]) | skip)
             by_cases c52 : (ji50) < (t644.length : Int)
             ·rw [if_pos c52] at H;have c52b0 : decide ((ji50) < (t644.length : Int)) = true:=decide_eq_true c52;clear c52;replace H:=bS.mp H;obtain ⟨t659,A530,H⟩:=H;replace H : ((impl_PlanCells.f kj44 t638 t639 t640 ((rd_T76 t644 (ji50)).f0) t659).bind fun t662 => (if 0 ≤ (wrap64 ((t648.length : Int) - 1)) then (if (wrap64 ((t648.length : Int) - 1)) < (t648.length : Int) then (if (rd t648 (wrap64 ((t648.length : Int) - 1))) = ((rd_T76 t644 (ji50)).f0) then (if (t662.length : Int) = 0 then (laws_FnPlans.j3 kj44 l0 true) else (if 0 ≤ (wrap64 ((t662.length : Int) - 1)) then (if (wrap64 ((t662.length : Int) - 1)) < (t662.length : Int) then (laws_FnPlans.j3 kj44 l0 ((rd t662 (wrap64 ((t662.length : Int) - 1))) != t643)) else (none)) else (none))) else (laws_FnPlans.j3 kj44 l0 true)) else (none)) else (none))) = some r:=H;have A53:=am A530;clear A530;replace H:=bS.mp H;obtain ⟨t662,A540,H⟩:=H;replace H : (if 0 ≤ (wrap64 ((t648.length : Int) - 1)) then (if (wrap64 ((t648.length : Int) - 1)) < (t648.length : Int) then (if (rd t648 (wrap64 ((t648.length : Int) - 1))) = ((rd_T76 t644 (ji50)).f0) then (if (t662.length : Int) = 0 then (laws_FnPlans.j3 kj44 l0 true) else (if 0 ≤ (wrap64 ((t662.length : Int) - 1)) then (if (wrap64 ((t662.length : Int) - 1)) < (t662.length : Int) then (laws_FnPlans.j3 kj44 l0 ((rd t662 (wrap64 ((t662.length : Int) - 1))) != t643)) else (none)) else (none))) else (laws_FnPlans.j3 kj44 l0 true)) else (none)) else (none)) = some r:=H;have A54:=am A540;clear A540;have HC55:=am H;clear H
              try go_wp2
              replace HO_5:=am (Kd.R_drew HO_5.out);replace HO_6:=am (Kd.R_drew HO_6.out);replace HO_648002:=am (Kd.Q_drew HO_648002.out);replace BK647:=am (blk_drew BK647.out);replace HB:=am (below_drew1 HB.out);have p658 : 0 ≤ ((ji50) : Int):=odt qq293;have q658 : (ji50) < (t644.length : Int):=odt qq293;obtain ⟨ad658,e658,hx658_0,hx658_1⟩:=at_T76 (Kd.R_reads' HO_5.out).2.2 (ji50) p658 q658
              cases e658
              replace p658:=eq_true p658;replace q658:=eq_true q658;refine start_ (n:=13) (S:=fun w' => w'.cell? ⟨gb647,0,none⟩ = some (.int .i64 t638) ∧ w'.cell? ⟨gb647,1,none⟩ = some (.int .i64 t639) ∧ w'.cell? ⟨gb647,2,none⟩ = some (.slice Ao10 t640.length co10) ∧ w'.cell? (ad658.add (((ji50)).toNat * 2)) = some (.int .i64 ((rd_T76 t644 (ji50)).f0)) ∧ w'.cell? ⟨(ad658.add (((ji50)).toNat * 2)).block,(ad658.add (((ji50)).toNat * 2)).off + 1,none⟩ = some (.int .i64 ((rd_T76 t644 (ji50)).f1))) (ds:=[]) #[Z,Z,Z,Z,Z,Z,Z,Z,Z,Z,Z,Z,Z] (by kernel_rfl) rfl rfl ⟨(blk_cell BK647.out 0).trans rfl,(blk_cell BK647.out 1).trans rfl,(blk_cell BK647.out 2).trans rfl,hx658_0,hx658_1⟩ (fun hHeld => ?_);refine with_tabW laws_FnPlans.tab13 laws_FnPlans.bits13 (fun HT_ HW_ => ?_)
              generalize wc.drew = w56 at HO_5 HO_6 HO_648002 BK647 HB hx658_0 hx658_1 hHeld ⊢
              refine pV (i:=1) (N:=some 81) #[Z,Y,Z,Z,Z,Z,Z,Z,Z,Z,Z,Z,Z] rfl rfl qT ?_
              refine pV (i:=2) (N:=some 82) #[Z,Y,Y,Z,Z,Z,Z,Z,Z,Z,Z,Z,Z] rfl rfl qT ?_
              refine pV (i:=3) (N:=some 83) #[Z,Y,Y,Y,Z,Z,Z,Z,Z,Z,Z,Z,Z] rfl rfl qT ?_
              refine pV (i:=4) (N:=some 84) #[Z,Y,Y,Y,Y,Z,Z,Z,Z,Z,Z,Z,Z] rfl rfl qT ?_
              refine pV (i:=5) (N:=some 85) #[Z,Y,Y,Y,Y,Y,Z,Z,Z,Z,Z,Z,Z] rfl rfl qT ?_
              refine pV (i:=6) (N:=some 86) #[Z,Y,Y,Y,Y,Y,Y,Z,Z,Z,Z,Z,Z] rfl rfl qT ?_
              refine pV (i:=8) (N:=some 88) #[Z,Y,Y,Y,Y,Y,Y,Z,Y,Z,Z,Z,Z] rfl rfl qT ?_
              refine pV (i:=9) (N:=some 89) #[Z,Y,Y,Y,Y,Y,Y,Z,Y,Y,Z,Z,Z] rfl rfl qT ?_
              refine tV5 (i:=0) (N:=some 80) #[Y,Y,Y,Y,Y,Y,Y,Z,Y,Y,Z,Z,Z] rfl rfl (take_ofW HT_.out HW_.out (by kernel_rfl)) hHeld ?_
              refine tV5 (i:=7) (N:=some 87) #[Y,Y,Y,Y,Y,Y,Y,Y,Y,Y,Z,Z,Z] rfl rfl (take_ofW HT_.out HW_.out (by kernel_rfl)) hHeld ?_
              refine one_ (i:=10) (N:=some 90) #[Y,Y,Y,Y,Y,Y,Y,Y,Y,Y,Y,Z,Z] rfl rfl (one_of HT_.out (by kernel_rfl)) (by decide) (fun K hK => ?_);refine goes_ Try.func50 (by kernel_rfl) rfl #[.int .i64 t643,.slice (some ad658) t644.length co11] (by rfl) rfl rfl qq177 ?_;with_reducible refine (impl_BackPlan.calls kj44 t643 _ _ t644 t659 _ ?side1 ?side2 A53.out).mono ?_
              (case side1 => repeat (first | exact (Kd.R_reads' HO_5.out).2.2 | (with_reducible refine cA ?_ _) | (with_reducible refine cN ?_ _) | (with_reducible refine cD ?_)));(case side2 => exact (Kd.R_reads' HO_5.out).2.1)
              rintro e w57 ⟨v660,rfl,ho0,hb⟩
              have HS3_:=(hb.cell (bl _ _ (hHeld.2.2.2.1))).trans (hHeld.2.2.2.1);have HS4_:=(hb.cell (bl _ _ (hHeld.2.2.2.2))).trans (hHeld.2.2.2.2);refine ⟨_,rfl,?_⟩;replace HO_6:=am (Kd.R_below qq284 hb);replace HO_648002:=am (Kd.Q_below qq190 hb);have HO661:=am (Kd.R_lower (Kd.R_new' ho0 (Kd.R_lt qq285)) (below_size qq150));replace HO_5:=am (Kd.R_elder' qq285 (Kd.R_base ho0) hb);replace BK647:=am (blk_below (g:=gb647) (o:=.cells #[.int .i64 t638,.int .i64 t639,.slice Ao10 t640.length co10] 51 (0,0)) qq204 hb);replace HB:=am (below_step qq150 hb);(try clear hb);(try clear hb2);(try clear hk);(try clear hi);(try clear ho0);obtain ⟨Ao58,co58,eo58⟩:=Kd.R_slice HO661.out;(first | subst eo58 | (injection eo58 with f1_ f2_ f3_;have f4_:=f1_.symm;have f5_:=f3_.symm;clear f1_ f2_ f3_;subst f4_;subst f5_));refine hK.out _ _ ⟨(blk_cell BK647.out 0).trans rfl,(blk_cell BK647.out 1).trans rfl,(blk_cell BK647.out 2).trans rfl,HS3_,HS4_⟩ (fun hHeld => ?_);clear hK K;refine norm_ (a':=?_) ?_ ?_;rotate_left
              ·show Act.put _ (some 90) _ = _
               simp only [Act.put,sA,s0,s1,i64_w,i32_w];rfl
              refine one_ (i:=11) (N:=some 91) #[Y,Y,Y,Y,Y,Y,Y,Y,Y,Y,Y,Y,Z] rfl rfl (one_of HT_.out (by kernel_rfl)) (by decide) (fun K hK => ?_);refine goes_ Try.func45 (by kernel_rfl) rfl #[.agg #[.int .i64 t638,.int .i64 t639,.slice Ao10 t640.length co10],.int .i64 ((rd_T76 t644 (ji50)).f0),.slice Ao58 t659.length co58] (by rfl) rfl rfl (by (try simp only [List.map_toArray,List.map_cons,List.map_nil]);first | done | (simp only [hji50];rfl) | rfl | (simp only [List.length_drop,List.length_take];rfl)) ?_;with_reducible refine (impl_PlanCells.calls kj44 t638 t639 _ _ t640 ((rd_T76 t644 (ji50)).f0) _ _ t659 t662 _ ?side1 ?side2 ?side3 ?side4 A54.out).mono ?_
              (case side1 => exact qq129);(case side2 => exact qq297);(case side3 => repeat (first | exact (Kd.R_reads' HO661.out).2.2 | (with_reducible refine cA ?_ _) | (with_reducible refine cN ?_ _) | (with_reducible refine cD ?_)));(case side4 => exact (Kd.R_reads' HO661.out).2.1)
              rintro e w59 ⟨v663,rfl,ho0,hb⟩
              have HS3_:=(hb.cell (bl _ _ (hHeld.2.2.2.1))).trans (hHeld.2.2.2.1);have HS4_:=(hb.cell (bl _ _ (hHeld.2.2.2.2))).trans (hHeld.2.2.2.2);refine ⟨_,rfl,?_⟩;replace HO_5:=am (Kd.R_below qq285 hb);replace HO661:=am (Kd.R_below (by (with_reducible repeat (first | apply kA | apply kN | apply kD));exact HO661.out) hb);have HO664:=am (Kd.R_lower (Kd.R_new' (Kd.R_new' ho0 (Kd.R_lt qq284)) (Kd.Q_lt qq190)) (below_size qq150));replace HO_6:=am (Kd.R_elder' qq284 (Kd.R_base ho0) hb);replace HO_648002:=am (Kd.Q_elder' qq190 (Kd.R_base ho0) hb);replace BK647:=am (blk_below (g:=gb647) (o:=.cells #[.int .i64 t638,.int .i64 t639,.slice Ao10 t640.length co10] 51 (0,0)) qq204 hb);replace HB:=am (below_step qq150 hb);(try clear hb);(try clear hb2);(try clear hk);(try clear hi);(try clear ho0);refine hK.out _ _ ⟨(blk_cell BK647.out 0).trans rfl,(blk_cell BK647.out 1).trans rfl,(blk_cell BK647.out 2).trans rfl,HS3_,HS4_⟩ (fun hHeld => ?_);clear hK K;refine norm_ (a':=?_) ?_ ?_;rotate_left
              ·show Act.put _ (some 91) _ = _
               simp only [Act.put,sA,s0,s1,i64_w,i32_w];rfl
              refine pV (i:=12) (N:=some 8) #[Y,Y,Y,Y,Y,Y,Y,Y,Y,Y,Y,Y,Y] rfl rfl qT ?_
              refine done_ (done_of HT_.out (by kernel_rfl)) ?_
              go_upto_region 14 with (fail)
              go_cut [120] (fun v120 wc => ∃ (kq : Nat) (x120_54 : Bool),v120 = .bool x120_54 ∧ Aside0 (laws_FnPlans.j3 kq l0 x120_54 = some r) ∧ Aside0 (kq ≤ kj44) ∧ Aside0 (Kd.Q (Kd.int .i64) 3 wc w.heap.size (fun _ => True) (.slice Ao10 t640.length co10) t640) ∧ Aside0 (wc.heap[gb647]? = some (.cells #[.int .i64 t638,.int .i64 t639,(.slice Ao10 t640.length co10)] 51 (0,0))) ∧ Aside0 (Below w.heap.size w wc))
              case first =>
               have H:=HC55.out;clear HC55;obtain ⟨ji60,hji60⟩ : ∃ j_ : Int,(wrap64 ((t648.length : Int) - 1)) = j_:=⟨_,rfl⟩
               replace H : (if 0 ≤ (ji60) then (if (ji60) < (t648.length : Int) then (if (rd t648 (ji60)) = ((rd_T76 t644 (ji50)).f0) then (if (t662.length : Int) = 0 then (laws_FnPlans.j3 kj44 l0 true) else (if 0 ≤ (wrap64 ((t662.length : Int) - 1)) then (if (wrap64 ((t662.length : Int) - 1)) < (t662.length : Int) then (laws_FnPlans.j3 kj44 l0 ((rd t662 (wrap64 ((t662.length : Int) - 1))) != t643)) else (none)) else (none))) else (laws_FnPlans.j3 kj44 l0 true)) else (none)) else (none)) = some r:=by first | (rw [hji60] at H;exact H) | (simp only [hji60] at H ⊢;exact H)
               have hji60w : (IntKind.i64.wrap ((t648.length : Int) - 1)) = ji60:=(i64_w _).trans hji60
               by_cases c61 : 0 ≤ (ji60)
               ·rw [if_pos c61] at H;have c61b0 : decide (0 ≤ (ji60)) = true:=decide_eq_true c61;clear c61;(first | rw [c61b0] | (simp only [i64_w,i32_w];rw [c61b0]) | skip)
                by_cases c62 : (ji60) < (t648.length : Int)
                ·rw [if_pos c62] at H;have c62b0 : decide ((ji60) < (t648.length : Int)) = true:=decide_eq_true c62;clear c62
                 by_cases c63 : (rd t648 (ji60)) = ((rd_T76 t644 (ji50)).f0)
                 ·rw [if_pos c63] at H;have c63b0 : ((rd t648 (ji60)) == ((rd_T76 t644 (ji50)).f0)) = true:=beq_iff_eq.mpr c63;have c63b1 : ((rd t648 (ji60)) != ((rd_T76 t644 (ji50)).f0)) = false:=bne_eq_false_iff_eq.mpr c63;clear c63
                  by_cases c64 : (t662.length : Int) = 0
                  ·rw [if_pos c64] at H;have c64b0 : ((t662.length : Int) == 0) = true:=beq_iff_eq.mpr c64;have c64b1 : ((t662.length : Int) != 0) = false:=bne_eq_false_iff_eq.mpr c64;clear c64;have H':=am H;clear H
                   try go_wp2
                   replace HO_5:=am (Kd.R_drew HO_5.out);replace HO_6:=am (Kd.R_drew HO_6.out);replace HO_648002:=am (Kd.Q_drew HO_648002.out);replace HO661:=am (Kd.R_drew HO661.out);replace HO664:=am (Kd.R_drew HO664.out);replace BK647:=am (blk_drew BK647.out);replace HB:=am (below_drew1 HB.out);have p665 : 0 ≤ ((ji60) : Int):=odt qq293;have q665 : (ji60) < (t648.length : Int):=odt qq293;obtain ⟨ad665,e665,hx665_0⟩:=Kd.at_int (Kd.R_reads' HO_6.out).2.2 (ji60) p665 q665
                   cases e665
                   replace p665:=eq_true p665;replace q665:=eq_true q665;have p666 : 0 ≤ ((ji50) : Int):=odt qq293;have q666 : (ji50) < (t644.length : Int):=odt qq293;obtain ⟨ad666,e666,hx666_0,hx666_1⟩:=at_T76 (Kd.R_reads' HO_5.out).2.2 (ji50) p666 q666;obtain rfl : ad658 = ad666:=(by injection e666)
                   replace p666:=eq_true p666;replace q666:=eq_true q666;obtain ⟨Ao66,co66,eo66⟩:=Kd.R_slice HO664.out;(first | subst eo66 | (injection eo66 with f1_ f2_ f3_;have f4_:=f1_.symm;have f5_:=f3_.symm;clear f1_ f2_ f3_;subst f4_;subst f5_));refine start_ (n:=29) (S:=fun w' => w'.cell? (ad665.add ((ji60)).toNat) = some (.int .i64 (rd t648 (ji60))) ∧ w'.cell? (ad658.add (((ji50)).toNat * 2)) = some (.int .i64 ((rd_T76 t644 (ji50)).f0)) ∧ w'.cell? ⟨(ad658.add (((ji50)).toNat * 2)).block,(ad658.add (((ji50)).toNat * 2)).off + 1,none⟩ = some (.int .i64 ((rd_T76 t644 (ji50)).f1))) (ds:=[]) m19_19 (by kernel_rfl) rfl rfl ⟨hx665_0,hx666_0,hx666_1⟩ (fun hHeld => ?_);refine with_tabW laws_FnPlans.tab14 laws_FnPlans.bits14 (fun HT_ HW_ => ?_)
                   generalize w59.drew = w65 at HO_5 HO_6 HO_648002 HO661 HO664 BK647 HB hx665_0 hx666_0 hx666_1 hHeld ⊢
                   refine pV (i:=0) (N:=some 92) m20_19 rfl rfl qT ?_
                   refine pV (i:=1) (N:=some 93) m21_19 rfl rfl qT ?_
                   refine pV (i:=2) (N:=some 94) m22_19 rfl rfl qT ?_
                   refine pV (i:=3) (N:=some 95) m23_19 rfl rfl qT ?_
                   refine pV (i:=4) (N:=some 96) m24_19 rfl rfl qT ?_
                   refine pV (i:=6) (N:=some 98) m25_19 rfl rfl qT ?_
                   refine pV (i:=7) (N:=some 99) m26_19 rfl rfl qT ?_
                   refine pV (i:=8) (N:=some 100) m27_19 rfl rfl qT ?_
                   refine pV (i:=9) (N:=some 101) m28_19 rfl rfl qT ?_
                   refine pV (i:=10) (N:=some 102) m29_19 rfl rfl qT ?_
                   refine pV (i:=11) (N:=some 103) m30_19 rfl rfl qT ?_
                   refine tV3 (i:=5) (N:=some 97) m31_19 rfl rfl (take_ofW HT_.out HW_.out (by kernel_rfl)) hHeld ?_
                   refine tV3 (i:=12) (N:=some 104) m32_19 rfl rfl (take_ofW HT_.out HW_.out (by kernel_rfl)) hHeld ?_
                   refine pV (i:=13) (N:=some 105) m33_19 rfl rfl qT ?_
                   refine pV (i:=14) (N:=some 106) m34_19 rfl rfl qT ?_
                   refine pV (i:=15) (N:=some 107) m35_19 rfl rfl qT ?_
                   refine pV (i:=16) (N:=some 108) m36_19 rfl rfl qT ?_
                   refine pV (i:=17) (N:=some 109) m37_19 rfl rfl qT ?_
                   refine pV (i:=18) (N:=some 110) m38_19 rfl rfl qT ?_
                   refine pV (i:=19) (N:=some 111) m39_19 rfl rfl qT ?_
                   refine pW (i:=20) (N:=some 112) m40_19 rfl rfl qT ?_
                   refine pW (i:=21) (N:=some 113) m41_19 rfl rfl qT ?_
                   refine pW (i:=22) (N:=some 114) m42_19 rfl rfl qT ?_
                   refine pW (i:=23) (N:=some 115) m43_19 rfl rfl qT ?_
                   refine pW (i:=24) (N:=some 116) m44_19 rfl rfl qT ?_
                   refine pW (i:=25) (N:=some 117) m45_19 rfl rfl qT ?_
                   refine pW (i:=26) (N:=some 118) m46_19 rfl rfl qT ?_
                   refine pW (i:=27) (N:=some 119) m47_19 rfl rfl qT ?_
                   refine pV (i:=28) (N:=some 120) m48_19 rfl rfl qT ?_
                   refine done_ (done_of HT_.out (by kernel_rfl)) ?_
                   try go_wp2
                   go_meet
                   case rel => exact ⟨_,(true),qq295,H',⟨qq287⟩,⟨qq146⟩,⟨qq204⟩,⟨qq150⟩⟩
                  ·rw [if_neg c64] at H;have c64b0 : ((t662.length : Int) == 0) = false:=beq_eq_false_iff_ne.mpr c64;have c64b1 : ((t662.length : Int) != 0) = true:=bne_iff_ne.mpr c64;have c64b2 : ¬ (t662 = []):=fun h_ => c64 (by rw [h_];rfl)
                   obtain ⟨ji67,hji67⟩ : ∃ j_ : Int,(wrap64 ((t662.length : Int) - 1)) = j_:=⟨_,rfl⟩
                   replace H : (if 0 ≤ (ji67) then (if (ji67) < (t662.length : Int) then (laws_FnPlans.j3 kj44 l0 ((rd t662 (ji67)) != t643)) else (none)) else (none)) = some r:=by first | (rw [hji67] at H;exact H) | (simp only [hji67] at H ⊢;exact H)
                   have hji67w : (IntKind.i64.wrap ((t662.length : Int) - 1)) = ji67:=(i64_w _).trans hji67
                   by_cases c68 : 0 ≤ (ji67)
                   ·rw [if_pos c68] at H;have c68b0 : decide (0 ≤ (ji67)) = true:=decide_eq_true c68;clear c68
                    by_cases c69 : (ji67) < (t662.length : Int)
                    ·rw [if_pos c69] at H;have c69b0 : decide ((ji67) < (t662.length : Int)) = true:=decide_eq_true c69;clear c69;have H':=am H;clear H
                     try go_wp2
                     replace HO_5:=am (Kd.R_drew HO_5.out);replace HO_6:=am (Kd.R_drew HO_6.out);replace HO_648002:=am (Kd.Q_drew HO_648002.out);replace HO661:=am (Kd.R_drew HO661.out);replace HO664:=am (Kd.R_drew HO664.out);replace BK647:=am (blk_drew BK647.out);replace HB:=am (below_drew1 HB.out);have p665 : 0 ≤ ((ji60) : Int):=odt qq293;have q665 : (ji60) < (t648.length : Int):=odt qq293;obtain ⟨ad665,e665,hx665_0⟩:=Kd.at_int (Kd.R_reads' HO_6.out).2.2 (ji60) p665 q665
                     cases e665
                     replace p665:=eq_true p665;replace q665:=eq_true q665;have p666 : 0 ≤ ((ji50) : Int):=odt qq293;have q666 : (ji50) < (t644.length : Int):=odt qq293;obtain ⟨ad666,e666,hx666_0,hx666_1⟩:=at_T76 (Kd.R_reads' HO_5.out).2.2 (ji50) p666 q666;obtain rfl : ad658 = ad666:=(by injection e666)
                     replace p666:=eq_true p666;replace q666:=eq_true q666;obtain ⟨Ao71,co71,eo71⟩:=Kd.R_slice HO664.out;(first | subst eo71 | (injection eo71 with f1_ f2_ f3_;have f4_:=f1_.symm;have f5_:=f3_.symm;clear f1_ f2_ f3_;subst f4_;subst f5_));have p667 : 0 ≤ ((ji67) : Int):=odt qq293;have q667 : (ji67) < (t662.length : Int):=odt qq293;obtain ⟨ad667,e667,hx667_0⟩:=Kd.at_int (Kd.R_reads' HO664.out).2.2 (ji67) p667 q667
                     cases e667
                     replace p667:=eq_true p667;replace q667:=eq_true q667;refine start_ (n:=29) (S:=fun w' => w'.cell? (ad665.add ((ji60)).toNat) = some (.int .i64 (rd t648 (ji60))) ∧ w'.cell? (ad658.add (((ji50)).toNat * 2)) = some (.int .i64 ((rd_T76 t644 (ji50)).f0)) ∧ w'.cell? ⟨(ad658.add (((ji50)).toNat * 2)).block,(ad658.add (((ji50)).toNat * 2)).off + 1,none⟩ = some (.int .i64 ((rd_T76 t644 (ji50)).f1)) ∧ w'.cell? (ad667.add ((ji67)).toNat) = some (.int .i64 (rd t662 (ji67)))) (ds:=[]) m19_19 (by kernel_rfl) rfl rfl ⟨hx665_0,hx666_0,hx666_1,hx667_0⟩ (fun hHeld => ?_);refine with_tabW laws_FnPlans.tab14 laws_FnPlans.bits14 (fun HT_ HW_ => ?_)
                     generalize w59.drew = w70 at HO_5 HO_6 HO_648002 HO661 HO664 BK647 HB hx665_0 hx666_0 hx666_1 hx667_0 hHeld ⊢
                     refine pV (i:=0) (N:=some 92) m20_19 rfl rfl qT ?_
                     refine pV (i:=1) (N:=some 93) m21_19 rfl rfl qT ?_
                     refine pV (i:=2) (N:=some 94) m22_19 rfl rfl qT ?_
                     refine pV (i:=3) (N:=some 95) m23_19 rfl rfl qT ?_
                     refine pV (i:=4) (N:=some 96) m24_19 rfl rfl qT ?_
                     refine pV (i:=6) (N:=some 98) m25_19 rfl rfl qT ?_
                     refine pV (i:=7) (N:=some 99) m26_19 rfl rfl qT ?_
                     refine pV (i:=8) (N:=some 100) m27_19 rfl rfl qT ?_
                     refine pV (i:=9) (N:=some 101) m28_19 rfl rfl qT ?_
                     refine pV (i:=10) (N:=some 102) m29_19 rfl rfl qT ?_
                     refine pV (i:=11) (N:=some 103) m30_19 rfl rfl qT ?_
                     refine tV4 (i:=5) (N:=some 97) m31_19 rfl rfl (take_ofW HT_.out HW_.out (by kernel_rfl)) hHeld ?_
                     refine tV4 (i:=12) (N:=some 104) m32_19 rfl rfl (take_ofW HT_.out HW_.out (by kernel_rfl)) hHeld ?_
                     refine pV (i:=13) (N:=some 105) m33_19 rfl rfl qT ?_
                     refine pV (i:=14) (N:=some 106) m34_19 rfl rfl qT ?_
                     refine pV (i:=15) (N:=some 107) m35_19 rfl rfl qT ?_
                     refine pV (i:=16) (N:=some 108) m36_19 rfl rfl qT ?_
                     refine pV (i:=17) (N:=some 109) m37_19 rfl rfl qT ?_
                     refine pV (i:=18) (N:=some 110) m38_19 rfl rfl qT ?_
                     refine pV (i:=19) (N:=some 111) m39_19 rfl rfl qT ?_
                     refine pV (i:=20) (N:=some 112) m40_19 rfl rfl qT ?_
                     refine pV (i:=21) (N:=some 113) m41_19 rfl rfl qT ?_
                     refine pV (i:=22) (N:=some 114) m42_19 rfl rfl qT ?_
                     refine pV (i:=23) (N:=some 115) m43_19 rfl rfl qT ?_
                     refine pV (i:=24) (N:=some 116) m44_19 rfl rfl qT ?_
                     refine pV (i:=26) (N:=some 118) #[Y,Y,Y,Y,Y,Y,Y,Y,Y,Y,Y,Y,Y,Y,Y,Y,Y,Y,Y,Y,Y,Y,Y,Y,Y,Z,Y,Z,Z] rfl rfl qT ?_
                     refine tV4 (i:=25) (N:=some 117) m46_19 rfl rfl (take_ofW HT_.out HW_.out (by kernel_rfl)) hHeld ?_
                     refine pV (i:=27) (N:=some 119) m47_19 rfl rfl qT ?_
                     refine pV (i:=28) (N:=some 120) m48_19 rfl rfl qT ?_
                     refine done_ (done_of HT_.out (by kernel_rfl)) ?_
                     try go_wp2
                     go_meet
                     case rel => exact ⟨_,(((rd t662 (ji67)) != t643)),(by first | rfl | (simp;done) | (simp only [← hji67] <;> (first | rfl | simp)) | (simp [*];done)),H',⟨qq287⟩,⟨qq146⟩,⟨qq204⟩,⟨qq150⟩⟩
                    ·rw [if_neg c69] at H;exact absurd H (by simp)
                   ·rw [if_neg c68] at H;exact absurd H (by simp)
                 ·rw [if_neg c63] at H;have c63b0 : ((rd t648 (ji60)) == ((rd_T76 t644 (ji50)).f0)) = false:=beq_eq_false_iff_ne.mpr c63;have c63b1 : ((rd t648 (ji60)) != ((rd_T76 t644 (ji50)).f0)) = true:=bne_iff_ne.mpr c63;have H':=am H;clear H
                  try go_wp2
                  replace HO_5:=am (Kd.R_drew HO_5.out);replace HO_6:=am (Kd.R_drew HO_6.out);replace HO_648002:=am (Kd.Q_drew HO_648002.out);replace HO661:=am (Kd.R_drew HO661.out);replace HO664:=am (Kd.R_drew HO664.out);replace BK647:=am (blk_drew BK647.out);replace HB:=am (below_drew1 HB.out);have p665 : 0 ≤ ((ji60) : Int):=odt qq293;have q665 : (ji60) < (t648.length : Int):=odt qq293;obtain ⟨ad665,e665,hx665_0⟩:=Kd.at_int (Kd.R_reads' HO_6.out).2.2 (ji60) p665 q665
                  cases e665
                  replace p665:=eq_true p665;replace q665:=eq_true q665;have p666 : 0 ≤ ((ji50) : Int):=odt qq293;have q666 : (ji50) < (t644.length : Int):=odt qq293;obtain ⟨ad666,e666,hx666_0,hx666_1⟩:=at_T76 (Kd.R_reads' HO_5.out).2.2 (ji50) p666 q666;obtain rfl : ad658 = ad666:=(by injection e666)
                  replace p666:=eq_true p666;replace q666:=eq_true q666;refine start_ (n:=29) (S:=fun w' => w'.cell? (ad665.add ((ji60)).toNat) = some (.int .i64 (rd t648 (ji60))) ∧ w'.cell? (ad658.add (((ji50)).toNat * 2)) = some (.int .i64 ((rd_T76 t644 (ji50)).f0)) ∧ w'.cell? ⟨(ad658.add (((ji50)).toNat * 2)).block,(ad658.add (((ji50)).toNat * 2)).off + 1,none⟩ = some (.int .i64 ((rd_T76 t644 (ji50)).f1))) (ds:=[]) m19_19 (by kernel_rfl) rfl rfl ⟨hx665_0,hx666_0,hx666_1⟩ (fun hHeld => ?_);refine with_tabW laws_FnPlans.tab14 laws_FnPlans.bits14 (fun HT_ HW_ => ?_)
                  generalize w59.drew = w72 at HO_5 HO_6 HO_648002 HO661 HO664 BK647 HB hx665_0 hx666_0 hx666_1 hHeld ⊢
                  refine pV (i:=0) (N:=some 92) m20_19 rfl rfl qT ?_
                  refine pV (i:=1) (N:=some 93) m21_19 rfl rfl qT ?_
                  refine pV (i:=2) (N:=some 94) m22_19 rfl rfl qT ?_
                  refine pV (i:=3) (N:=some 95) m23_19 rfl rfl qT ?_
                  refine pV (i:=4) (N:=some 96) m24_19 rfl rfl qT ?_
                  refine pV (i:=6) (N:=some 98) m25_19 rfl rfl qT ?_
                  refine pV (i:=7) (N:=some 99) m26_19 rfl rfl qT ?_
                  refine pV (i:=8) (N:=some 100) m27_19 rfl rfl qT ?_
                  refine pV (i:=9) (N:=some 101) m28_19 rfl rfl qT ?_
                  refine pV (i:=10) (N:=some 102) m29_19 rfl rfl qT ?_
                  refine pV (i:=11) (N:=some 103) m30_19 rfl rfl qT ?_
                  refine tV3 (i:=5) (N:=some 97) m31_19 rfl rfl (take_ofW HT_.out HW_.out (by kernel_rfl)) hHeld ?_
                  refine tV3 (i:=12) (N:=some 104) m32_19 rfl rfl (take_ofW HT_.out HW_.out (by kernel_rfl)) hHeld ?_
                  refine pV (i:=13) (N:=some 105) m33_19 rfl rfl qT ?_
                  refine pV (i:=14) (N:=some 106) m34_19 rfl rfl qT ?_
                  refine pW (i:=15) (N:=some 107) m35_19 rfl rfl qT ?_
                  refine pW (i:=16) (N:=some 108) m36_19 rfl rfl qT ?_
                  refine pW (i:=17) (N:=some 109) m37_19 rfl rfl qT ?_
                  refine pV (i:=18) (N:=some 110) m38_19 rfl rfl qT ?_
                  refine pV (i:=19) (N:=some 111) m39_19 rfl rfl qT ?_
                  refine pW (i:=20) (N:=some 112) m40_19 rfl rfl qT ?_
                  refine pW (i:=21) (N:=some 113) m41_19 rfl rfl qT ?_
                  refine pW (i:=22) (N:=some 114) m42_19 rfl rfl qT ?_
                  refine pW (i:=23) (N:=some 115) m43_19 rfl rfl qT ?_
                  refine pW (i:=24) (N:=some 116) m44_19 rfl rfl qT ?_
                  refine pW (i:=25) (N:=some 117) m45_19 rfl rfl qT ?_
                  refine pW (i:=26) (N:=some 118) m46_19 rfl rfl qT ?_
                  refine pW (i:=27) (N:=some 119) m47_19 rfl rfl qT ?_
                  refine pV (i:=28) (N:=some 120) m48_19 rfl rfl qT ?_
                  refine done_ (done_of HT_.out (by kernel_rfl)) ?_
                  try go_wp2
                  go_meet
                  case rel => exact ⟨_,(true),qq295,H',⟨qq287⟩,⟨qq146⟩,⟨qq204⟩,⟨qq150⟩⟩
                ·rw [if_neg c62] at H;exact absurd H (by simp)
               ·rw [if_neg c61] at H;exact absurd H (by simp)
              case rest =>
               clear HC55
               try clear p2
               try clear c6
               try clear p6
               try clear q6
               try clear hx6
               try clear c61
               try clear c62
               try clear c63
               try clear c63b0
               try clear c63b1
               try clear c64
               try clear c64b0
               try clear c64b1
               try clear c64b2
               try clear p64
               try clear p66
               try clear q66
               try clear hx66
               try clear c68
               try clear c68b0
               try clear c69
               try clear c69b0
               try clear hx665_0
               try clear hx666_0
               try clear hx666_1
               try clear hx667_0
               try clear p665
               try clear p666
               try clear p667
               try clear q665
               try clear q666
               try clear q667
               obtain ⟨kq,x120_54,rfl,HA,HJ54,HO_648002,BK647,HB⟩:=hcut
               cases kq with
               | zero => exact absurd HA.out (by simp [laws_FnPlans.j3])
               | succ kj54 =>
                have H:=HA.out;clear HA;simp only [laws_FnPlans.j3] at H
                by_cases c73 : x120_54 = true
                ·subst c73;have H1 : (some false) = some r:=by rw [if_pos rfl] at H;exact H
                 clear H;have H:=H1;clear H1;obtain rfl:=Option.some.inj H;go_wp2
                 go_ret
                 exact ⟨by first | rfl | (simp [errW_none,errW_some] <;> rfl) | (simp only [← hji50];first | rfl | (simp [errW_none,errW_some] <;> rfl)) | (simp [*,errW_none,errW_some] <;> rfl),qq150⟩
                ·replace c73:=Bool.eq_false_iff.mpr c73;subst c73;have H1 : (laws_FnPlans.j4 kj54 l0) = some r:=by rw [if_neg (show ¬ (false = true) by decide)] at H;exact H
                 clear H;have H:=H1;clear H1;have H':=am H;clear H;go_wp2
                 go_meet
                 case rel => exact ⟨_,H',⟨by have:=HJ5.out;have:=HK2.out;have:=HJ44.out;have:=HJ54.out;first | omega | exact Nat.le_refl _⟩,⟨qq190⟩,⟨qq204⟩,⟨qq150⟩⟩
             ·rw [if_neg c52] at H;exact absurd H (by simp)
            ·rw [if_neg c51] at H;exact absurd H (by simp)
           ·replace c49:=Bool.eq_false_iff.mpr c49;subst c49;have H1 : (laws_FnPlans.j4 kj44 l0) = some r:=by rw [if_neg (show ¬ (false = true) by decide)] at H;exact H
            clear H;have H:=H1;clear H1;have H':=am H;clear H;go_wp2
            go_meet
            case rel => exact ⟨_,H',⟨qq287⟩,⟨qq146⟩,⟨qq204⟩,⟨qq150⟩⟩
          case rest =>
           clear HC48
           try clear p2
           try clear c4
           try clear c5
           try clear c6
           try clear p6
           try clear q6
           try clear hx6
           try clear c7
           try clear c49
           try clear c51
           try clear c52
           try clear c61
           try clear c62
           try clear c63
           try clear c63b0
           try clear c63b1
           try clear c64
           try clear c64b0
           try clear c64b1
           try clear c64b2
           try clear p64
           try clear p66
           try clear q66
           try clear hx66
           try clear c68
           try clear c68b0
           try clear c69
           try clear c69b0
           try clear c73
           try clear hx665_0
           try clear hx666_0
           try clear hx666_1
           try clear hx667_0
           try clear p2
           try clear p6
           try clear p64
           try clear p66
           try clear p665
           try clear p666
           try clear p667
           try clear q6
           try clear q66
           try clear q665
           try clear q666
           try clear q667
           obtain ⟨kq,HA,HJ47,HO_648002,BK647,HB⟩:=hcut
           cases kq with
           | zero => exact absurd HA.out (by simp [laws_FnPlans.j4])
           | succ kj47 =>
            have H:=HA.out;clear HA;simp only [laws_FnPlans.j4] at H;replace H:=bS.mp H;obtain ⟨⟨t668,t669,t670,t673,t674,t677,t678,t679,t680,t681,t684⟩,A740,H⟩:=H;replace H : ((impl_PlanFood.f kj47 t668 t669 t670 t673 t674 t677 t678 t679 t680 t681 t684).bind fun t690 => (if t690 < 0 then (some true) else ((impl_NeedOf.f kj47 t681).bind fun t691 => ((impl_PlanDays.f kj47 t668 t669 t670 t673 t674).bind fun t692 => (some (decide (t690 ≥ (wrap64 (t691 * t692))))))))) = some r:=H;have A74:=am A740;clear A740;replace H:=bS.mp H;obtain ⟨t690,A750,H⟩:=H;replace H : (if t690 < 0 then (some true) else ((impl_NeedOf.f kj47 t681).bind fun t691 => ((impl_PlanDays.f kj47 t668 t669 t670 t673 t674).bind fun t692 => (some (decide (t690 ≥ (wrap64 (t691 * t692)))))))) = some r:=H;have A75:=am A750;clear A750
            by_cases c76 : t690 < 0
            ·rw [if_pos c76] at H;have c76b0 : decide (t690 < 0) = true:=decide_eq_true c76;clear c76;obtain rfl:=Option.some.inj H
             try go_wp2_with (first | ((with_reducible refine gate_callee (f:=51) rfl ?_);refine goesL_ (some 123) rfl rfl Try.func51 (by kernel_rfl) rfl #[.slice A0 l0.length c0] rfl qq177 ?_;(with_reducible refine (spec_DrawPlanFood.calls kj47 _ _ l0 t668 t669 t670 t673 t674 t677 t678 t679 t680 t681 t684 _ ?side1 ?side2 A74.out).mono ?_);(case side1 => exact qq136);(case side2 => exact HC0.out);rintro e w77 ⟨v671,v675,v682,v685,rfl,ho0,ho1,ho2,ho3,hb⟩;refine ⟨_,rfl,?_⟩;have HO672:=am (Kd.Q_lower (Kd.Q_new' ho0 (Kd.Q_lt qq190)) (below_size qq150));replace HO_648002:=am (Kd.Q_elder' qq190 (Kd.Q_base ho0) hb);have HO676:=am (Kd.R_lower ho1 (below_size qq150));have HO683:=am (Kd.R_lower ho2 (below_size qq150));have HO686:=am (Kd.R_lower ho3 (below_size qq150));replace BK647:=am (blk_below (g:=gb647) (o:=.cells #[.int .i64 t638,.int .i64 t639,.slice Ao10 t640.length co10] 51 (0,0)) qq204 hb);replace HB:=am (below_step qq150 hb);(try clear hb);(try clear hb2);(try clear hk);(try clear hi);(try clear ho0);(try clear ho1);(try clear ho2);(try clear ho3)) | ((with_reducible refine gate_dst (N:=9) rfl ?_);(try (refine gate_guard (by rfl) ?_;dsimp only));refine box_event ?hg (N:=9) ?hd (cs:=#[.int .i64 0,.int .i64 0,.slice none 0 0]) (t:=51) ?hr ?_;(case hd => rfl);(case hg => rfl);(case hr => exact qq296);intro gb687 hg w78 hbox hb;replace HO_648002:=am (Kd.Q_below qq190 hb);replace HO672:=am (Kd.Q_below qq193 hb);replace HO676:=am (Kd.R_below qq259 hb);replace HO683:=am (Kd.R_below qq258 hb);replace HO686:=am (Kd.R_below qq257 hb);have BK687:=am (hbox);have GW687:=am ((qq110 : w.heap.size ≤ gb687));have GE687:=am ((qq110 : w.heap.size ≤ gb687));replace HB:=am (below_step qq150 hb);have NB647_687:=am ((qq49 : gb647 ≠ gb687));have NB687_647:=am ((qq53 : gb687 ≠ gb647));replace BK647:=am (blk_below (g:=gb647) (o:=.cells #[.int .i64 t638,.int .i64 t639,.slice Ao10 t640.length co10] 51 (0,0)) qq204 hb);clear hb hbox hg) | ((with_reducible refine gate_dst (N:=12) rfl ?_);(try (refine gate_guard (by rfl) ?_;dsimp only));refine box_event ?hg (N:=12) ?hd (cs:=#[.int .i64 0,.int .i64 0]) (t:=37) ?hr ?_;(case hd => rfl);(case hg => rfl);(case hr => exact qq296);intro gb688 hg w79 hbox hb;replace HO_648002:=am (Kd.Q_below qq190 hb);replace HO672:=am (Kd.Q_below qq193 hb);replace HO676:=am (Kd.R_below qq259 hb);replace HO683:=am (Kd.R_below qq258 hb);replace HO686:=am (Kd.R_below qq257 hb);have BK688:=am (hbox);have GW688:=am ((qq84 : w.heap.size ≤ gb688));have GE688:=am ((qq84 : w.heap.size ≤ gb688));replace HB:=am (below_step qq115 hb);have NB647_688:=am ((qq49 : gb647 ≠ gb688));have NB688_647:=am ((qq53 : gb688 ≠ gb647));replace BK647:=am (blk_below (g:=gb647) (o:=.cells #[.int .i64 t638,.int .i64 t639,.slice Ao10 t640.length co10] 51 (0,0)) qq204 hb);have NB687_688:=am ((qq64 : gb687 ≠ gb688));have NB688_687:=am ((qq66 : gb688 ≠ gb687));replace BK687:=am (blk_below (g:=gb687) (o:=.cells #[.int .i64 0,.int .i64 0,.slice none 0 0] 51 (0,0)) qq203 hb);clear hb hbox hg) | ((with_reducible refine gate_dst (N:=13) rfl ?_);(try (refine gate_guard (by rfl) ?_;dsimp only));refine box_event ?hg (N:=13) ?hd (cs:=#[.int .i64 0,.int .i64 0,.slice none 0 0,.slice none 0 0]) (t:=27) ?hr ?_;(case hd => rfl);(case hg => rfl);(case hr => exact qq296);intro gb689 hg w80 hbox hb;replace HO_648002:=am (Kd.Q_below qq190 hb);replace HO672:=am (Kd.Q_below qq193 hb);replace HO676:=am (Kd.R_below qq259 hb);replace HO683:=am (Kd.R_below qq258 hb);replace HO686:=am (Kd.R_below qq257 hb);have BK689:=am (hbox);have GW689:=am ((qq57 : w.heap.size ≤ gb689));have GE689:=am ((qq57 : w.heap.size ≤ gb689));replace HB:=am (below_step qq87 hb);have NB647_689:=am ((qq49 : gb647 ≠ gb689));have NB689_647:=am ((qq53 : gb689 ≠ gb647));replace BK647:=am (blk_below (g:=gb647) (o:=.cells #[.int .i64 t638,.int .i64 t639,.slice Ao10 t640.length co10] 51 (0,0)) qq204 hb);have NB687_689:=am ((qq64 : gb687 ≠ gb689));have NB689_687:=am ((qq66 : gb689 ≠ gb687));replace BK687:=am (blk_below (g:=gb687) (o:=.cells #[.int .i64 0,.int .i64 0,.slice none 0 0] 51 (0,0)) qq203 hb);have NB688_689:=am ((qq90 : gb688 ≠ gb689));have NB689_688:=am ((qq92 : gb689 ≠ gb688));replace BK688:=am (blk_below (g:=gb688) (o:=.cells #[.int .i64 0,.int .i64 0] 37 (0,0)) qq202 hb);clear hb hbox hg;have hnb81:=NB687_647.out;have hnc81:=NB647_687.out;have hnb82:=NB687_688.out;have hnc82:=NB688_687.out;have hnb83:=NB687_689.out;have hnc83:=NB689_687.out;obtain ⟨hcz84_0,hcz84_1,hcz84_2,hfz84_0,hfz84_1,hfz84_2⟩:=bcl3 BK687.out;obtain ⟨Ao85,co85,eo85,_⟩:=Kd.Q_slice HO672.out;subst eo85;have hnb86:=NB688_647.out;have hnc86:=NB647_688.out;have hnb87:=NB688_689.out;have hnc87:=NB689_688.out;obtain ⟨hcz88_0,hcz88_1,hfz88_0,hfz88_1⟩:=bcl2 BK688.out;have hnb89:=NB689_647.out;have hnc89:=NB647_689.out;obtain ⟨hcz90_0,hcz90_1,hcz90_2,hcz90_3,hfz90_0,hfz90_1,hfz90_2,hfz90_3⟩:=bcl4 BK689.out;obtain ⟨Ao91,co91,eo91⟩:=Kd.R_slice HO683.out;subst eo91;obtain ⟨Ao92,co92,eo92⟩:=Kd.R_slice HO686.out;subst eo92;obtain ⟨Ao93,co93,eo93⟩:=Kd.R_slice HO676.out;subst eo93) | ((with_reducible refine gate_callee (f:=52) rfl ?_);refine goesL_ (some 134) rfl rfl Try.func52 (by kernel_rfl) rfl #[.agg #[.int .i64 t668,.int .i64 t669,.slice Ao85 t670.length co85],.int .i64 t673,.slice Ao93 t674.length co93,.agg #[.int .i64 t677,.int .i64 t678],.agg #[.int .i64 t679,.int .i64 t680,.slice Ao91 t681.length co91,.slice Ao92 t684.length co92]] rfl qq177 ?_;(with_reducible refine (impl_PlanFood.calls kj47 t668 t669 _ _ t670 t673 _ _ t674 t677 t678 t679 t680 _ _ t681 _ _ t684 t690 _ ?side1 ?side2 ?side3 ?side4 ?side5 ?side6 ?side7 ?side8 A75.out).mono ?_);(case side1 => refine (Kd.Q_reads' (e:=3) (base:=w.heap.size) (ok:=fun k_ => (True ∧ some k_ ≠ (.slice Ao10 t640.length co10 : Value).ownBlock)) (n:=t670.length) (c:=co85) ?_).2.2;exact qq5);(case side2 => exact qq305);(case side3 => refine (Kd.R_reads' (e:=76) (base:=w.heap.size) (ok:=fun k_ => True) (n:=t674.length) (c:=co93) ?_).2.2;exact qq11);(case side4 => exact qq302);(case side5 => refine (Kd.R_reads' (e:=112) (base:=w.heap.size) (ok:=fun k_ => True) (n:=t681.length) (c:=co91) ?_).2.2;exact qq10);(case side6 => exact qq301);(case side7 => refine (Kd.R_reads' (e:=4) (base:=w.heap.size) (ok:=fun k_ => True) (n:=t684.length) (c:=co92) ?_).2.2;exact qq9);(case side8 => exact (Kd.R_reads' HO686.out).2.1);rintro e w94 ⟨rfl,hb⟩;refine ⟨_,rfl,?_⟩;replace HO_648002:=am (Kd.Q_below (by (with_reducible repeat (first | apply Kd.Q_alloc | apply Kd.Q_drewN | apply Kd.Q_drew));exact (Kd.Q_mono (Kd.Q_mono (Kd.Q_mono (Kd.Q_far (p:=⟨gb689,3,none⟩) (Kd.Q_far (p:=⟨gb689,2,none⟩) (Kd.Q_far (p:=⟨gb689,1,none⟩) (Kd.Q_far (p:=⟨gb689,0,none⟩) (Kd.Q_far (p:=⟨gb688,1,none⟩) (Kd.Q_far (p:=⟨gb688,0,none⟩) (Kd.Q_far (p:=⟨gb687,2,none⟩) (Kd.Q_far (p:=⟨gb687,1,none⟩) (Kd.Q_far (p:=⟨gb687,0,none⟩) (Kd.Q_types (Kd.Q_types (Kd.Q_types HO_648002.out BK687.out (by decide)) BK688.out (by decide)) BK689.out (by decide)) (fun _ hk => hk.1.1.2) (.int .i64 t668)) (fun _ hk => hk.1.1.2) (.int .i64 t669)) (fun _ hk => hk.1.1.2) (.slice Ao85 t670.length co85)) (fun _ hk => hk.1.2) (.int .i64 t677)) (fun _ hk => hk.1.2) (.int .i64 t678)) (fun _ hk => hk.2) (.int .i64 t679)) (fun _ hk => hk.2) (.int .i64 t680)) (fun _ hk => hk.2) (.slice Ao91 t681.length co91)) (fun _ hk => hk.2) (.slice Ao92 t684.length co92)) (fun _ h_ => h_.1)) (fun _ h_ => h_.1)) (fun _ h_ => h_.1))) hb);replace HO672:=am (Kd.Q_below qq5 hb);replace HO676:=am (Kd.R_below qq11 hb);replace HO683:=am (Kd.R_below qq10 hb);replace HO686:=am (Kd.R_below qq9 hb);replace BK647:=am (blk_below (g:=gb647) (o:=.cells #[.int .i64 t638,.int .i64 t639,.slice Ao10 t640.length co10] 51 (0,0)) qq3 hb);replace BK687:=am (blk_below (g:=gb687) (o:=.cells #[.int .i64 t668,.int .i64 t669,.slice Ao85 t670.length co85] 51 (0,0)) qq1 hb);replace BK688:=am (blk_below (g:=gb688) (o:=.cells #[.int .i64 t677,.int .i64 t678] 37 (0,0)) qq2 hb);replace BK689:=am (blk_below (g:=gb689) (o:=.cells #[.int .i64 t679,.int .i64 t680,.slice Ao91 t681.length co91,.slice Ao92 t684.length co92] 27 (0,0)) (by (with_reducible repeat (first | refine dN ?_ _ | refine dD ?_ | refine dA ?_ _));refine blk_put (cs:=#[.int .i64 t679,.int .i64 t680,.slice Ao91 t681.length co91,.slice none 0 0]) ?_ 3 _ rfl;(with_reducible repeat (first | refine dN ?_ _ | refine dD ?_ | refine dA ?_ _));refine blk_put (cs:=#[.int .i64 t679,.int .i64 t680,.slice none 0 0,.slice none 0 0]) ?_ 2 _ rfl;(with_reducible repeat (first | refine dN ?_ _ | refine dD ?_ | refine dA ?_ _));refine blk_put (cs:=#[.int .i64 t679,.int .i64 0,.slice none 0 0,.slice none 0 0]) ?_ 1 _ rfl;(with_reducible repeat (first | refine dN ?_ _ | refine dD ?_ | refine dA ?_ _));refine blk_put (cs:=#[.int .i64 0,.int .i64 0,.slice none 0 0,.slice none 0 0]) ?_ 0 _ rfl;(with_reducible repeat (first | refine dN ?_ _ | refine dD ?_ | refine dA ?_ _));refine blk_far ?_ NB689_688.out _;(with_reducible repeat (first | refine dN ?_ _ | refine dD ?_ | refine dA ?_ _));refine blk_far ?_ NB689_688.out _;(with_reducible repeat (first | refine dN ?_ _ | refine dD ?_ | refine dA ?_ _));refine blk_far ?_ NB689_687.out _;(with_reducible repeat (first | refine dN ?_ _ | refine dD ?_ | refine dA ?_ _));refine blk_far ?_ NB689_687.out _;(with_reducible repeat (first | refine dN ?_ _ | refine dD ?_ | refine dA ?_ _));refine blk_far ?_ NB689_687.out _;(with_reducible repeat (first | refine dN ?_ _ | refine dD ?_ | refine dA ?_ _));exact BK689.out) hb);replace HB:=am (below_step qq58 hb);(try clear hb);(try clear hb2);(try clear hk);(try clear hi)))
             replace HO_648002:=am (Kd.Q_drew HO_648002.out);replace HO672:=am (Kd.Q_drew HO672.out);replace HO676:=am (Kd.R_drew HO676.out);replace HO683:=am (Kd.R_drew HO683.out);replace HO686:=am (Kd.R_drew HO686.out);replace BK647:=am (blk_drew BK647.out);replace BK687:=am (blk_drew BK687.out);replace BK688:=am (blk_drew BK688.out);replace BK689:=am (blk_drew BK689.out);replace HB:=am (below_drew1 HB.out);refine start_ (n:=15) (S:=fun w' => True) (ds:=[]) #[Z,Z,Z,Z,Z,Z,Z,Z,Z,Z,Z,Z,Z,Z,Z] (by kernel_rfl) rfl rfl trivial (fun hHeld => ?_);refine with_tabW laws_FnPlans.tab18 laws_FnPlans.bits18 (fun HT_ HW_ => ?_)
             generalize w94.drew = w95 at HO_648002 HO672 HO676 HO683 HO686 BK647 BK687 BK688 BK689 HB hHeld ⊢
             refine pV (i:=0) (N:=some 135) #[Y,Z,Z,Z,Z,Z,Z,Z,Z,Z,Z,Z,Z,Z,Z] rfl rfl qT ?_
             refine pV (i:=1) (N:=some 136) #[Y,Y,Z,Z,Z,Z,Z,Z,Z,Z,Z,Z,Z,Z,Z] rfl rfl qT ?_
             refine pV (i:=2) (N:=some 137) #[Y,Y,Y,Z,Z,Z,Z,Z,Z,Z,Z,Z,Z,Z,Z] rfl rfl qT ?_
             refine pW (i:=3) (N:=some 138) #[Y,Y,Y,Y,Z,Z,Z,Z,Z,Z,Z,Z,Z,Z,Z] rfl rfl qT ?_
             refine pW (i:=4) (N:=some 139) #[Y,Y,Y,Y,Y,Z,Z,Z,Z,Z,Z,Z,Z,Z,Z] rfl rfl qT ?_
             refine pW (i:=5) (N:=some 140) #[Y,Y,Y,Y,Y,Y,Z,Z,Z,Z,Z,Z,Z,Z,Z] rfl rfl qT ?_
             refine pW (i:=6) (N:=some 141) #[Y,Y,Y,Y,Y,Y,Y,Z,Z,Z,Z,Z,Z,Z,Z] rfl rfl qT ?_
             refine pW (i:=7) (N:=some 142) #[Y,Y,Y,Y,Y,Y,Y,Y,Z,Z,Z,Z,Z,Z,Z] rfl rfl qT ?_
             refine pW (i:=8) (N:=some 143) #[Y,Y,Y,Y,Y,Y,Y,Y,Y,Z,Z,Z,Z,Z,Z] rfl rfl qT ?_
             refine pW (i:=9) (N:=some 144) #[Y,Y,Y,Y,Y,Y,Y,Y,Y,Y,Z,Z,Z,Z,Z] rfl rfl qT ?_
             refine pW (i:=10) (N:=some 145) #[Y,Y,Y,Y,Y,Y,Y,Y,Y,Y,Y,Z,Z,Z,Z] rfl rfl qT ?_
             refine pW (i:=11) (N:=some 146) #[Y,Y,Y,Y,Y,Y,Y,Y,Y,Y,Y,Y,Z,Z,Z] rfl rfl qT ?_
             refine pW (i:=12) (N:=some 147) #[Y,Y,Y,Y,Y,Y,Y,Y,Y,Y,Y,Y,Y,Z,Z] rfl rfl qT ?_
             refine pV (i:=13) (N:=some 148) #[Y,Y,Y,Y,Y,Y,Y,Y,Y,Y,Y,Y,Y,Y,Z] rfl rfl qT ?_
             refine pV (i:=14) (N:=some 2) #[Y,Y,Y,Y,Y,Y,Y,Y,Y,Y,Y,Y,Y,Y,Y] rfl rfl qT ?_
             refine done_ (done_of HT_.out (by kernel_rfl)) ?_
             try go_wp2
             go_ret
             exact ⟨qq246,qq58⟩
            ·rw [if_neg c76] at H;have c76b0 : decide (t690 < 0) = false:=decide_eq_false c76;clear c76;replace H:=bS.mp H;obtain ⟨t691,A960,H⟩:=H;replace H : ((impl_PlanDays.f kj47 t668 t669 t670 t673 t674).bind fun t692 => (some (decide (t690 ≥ (wrap64 (t691 * t692)))))) = some r:=H;have A96:=am A960;clear A960;replace H:=bS.mp H;obtain ⟨t692,A970,H⟩:=H;replace H : (some (decide (t690 ≥ (wrap64 (t691 * t692))))) = some r:=H;have A97:=am A970;clear A970;obtain rfl:=Option.some.inj H
             try go_wp2_with (first | ((with_reducible refine gate_callee (f:=51) rfl ?_);refine goesL_ (some 123) rfl rfl Try.func51 (by kernel_rfl) rfl #[.slice A0 l0.length c0] rfl qq177 ?_;(with_reducible refine (spec_DrawPlanFood.calls kj47 _ _ l0 t668 t669 t670 t673 t674 t677 t678 t679 t680 t681 t684 _ ?side1 ?side2 A74.out).mono ?_);(case side1 => exact qq136);(case side2 => exact HC0.out);rintro e w98 ⟨v671,v675,v682,v685,rfl,ho0,ho1,ho2,ho3,hb⟩;refine ⟨_,rfl,?_⟩;have HO672:=am (Kd.Q_lower (Kd.Q_new' ho0 (Kd.Q_lt qq190)) (below_size qq150));replace HO_648002:=am (Kd.Q_elder' qq190 (Kd.Q_base ho0) hb);have HO676:=am (Kd.R_lower ho1 (below_size qq150));have HO683:=am (Kd.R_lower ho2 (below_size qq150));have HO686:=am (Kd.R_lower ho3 (below_size qq150));replace BK647:=am (blk_below (g:=gb647) (o:=.cells #[.int .i64 t638,.int .i64 t639,.slice Ao10 t640.length co10] 51 (0,0)) qq204 hb);replace HB:=am (below_step qq150 hb);(try clear hb);(try clear hb2);(try clear hk);(try clear hi);(try clear ho0);(try clear ho1);(try clear ho2);(try clear ho3)) | ((with_reducible refine gate_dst (N:=9) rfl ?_);(try (refine gate_guard (by rfl) ?_;dsimp only));refine box_event ?hg (N:=9) ?hd (cs:=#[.int .i64 0,.int .i64 0,.slice none 0 0]) (t:=51) ?hr ?_;(case hd => rfl);(case hg => rfl);(case hr => exact qq296);intro gb687 hg w99 hbox hb;replace HO_648002:=am (Kd.Q_below qq190 hb);replace HO672:=am (Kd.Q_below qq193 hb);replace HO676:=am (Kd.R_below qq259 hb);replace HO683:=am (Kd.R_below qq258 hb);replace HO686:=am (Kd.R_below qq257 hb);have BK687:=am (hbox);have GW687:=am ((qq110 : w.heap.size ≤ gb687));have GE687:=am ((qq110 : w.heap.size ≤ gb687));replace HB:=am (below_step qq150 hb);have NB647_687:=am ((qq49 : gb647 ≠ gb687));have NB687_647:=am ((qq53 : gb687 ≠ gb647));replace BK647:=am (blk_below (g:=gb647) (o:=.cells #[.int .i64 t638,.int .i64 t639,.slice Ao10 t640.length co10] 51 (0,0)) qq204 hb);clear hb hbox hg) | ((with_reducible refine gate_dst (N:=12) rfl ?_);(try (refine gate_guard (by rfl) ?_;dsimp only));refine box_event ?hg (N:=12) ?hd (cs:=#[.int .i64 0,.int .i64 0]) (t:=37) ?hr ?_;(case hd => rfl);(case hg => rfl);(case hr => exact qq296);intro gb688 hg w100 hbox hb;replace HO_648002:=am (Kd.Q_below qq190 hb);replace HO672:=am (Kd.Q_below qq193 hb);replace HO676:=am (Kd.R_below qq259 hb);replace HO683:=am (Kd.R_below qq258 hb);replace HO686:=am (Kd.R_below qq257 hb);have BK688:=am (hbox);have GW688:=am ((qq84 : w.heap.size ≤ gb688));have GE688:=am ((qq84 : w.heap.size ≤ gb688));replace HB:=am (below_step qq115 hb);have NB647_688:=am ((qq49 : gb647 ≠ gb688));have NB688_647:=am ((qq53 : gb688 ≠ gb647));replace BK647:=am (blk_below (g:=gb647) (o:=.cells #[.int .i64 t638,.int .i64 t639,.slice Ao10 t640.length co10] 51 (0,0)) qq204 hb);have NB687_688:=am ((qq64 : gb687 ≠ gb688));have NB688_687:=am ((qq66 : gb688 ≠ gb687));replace BK687:=am (blk_below (g:=gb687) (o:=.cells #[.int .i64 0,.int .i64 0,.slice none 0 0] 51 (0,0)) qq203 hb);clear hb hbox hg) | ((with_reducible refine gate_dst (N:=13) rfl ?_);(try (refine gate_guard (by rfl) ?_;dsimp only));refine box_event ?hg (N:=13) ?hd (cs:=#[.int .i64 0,.int .i64 0,.slice none 0 0,.slice none 0 0]) (t:=27) ?hr ?_;(case hd => rfl);(case hg => rfl);(case hr => exact qq296);intro gb689 hg w101 hbox hb;replace HO_648002:=am (Kd.Q_below qq190 hb);replace HO672:=am (Kd.Q_below qq193 hb);replace HO676:=am (Kd.R_below qq259 hb);replace HO683:=am (Kd.R_below qq258 hb);replace HO686:=am (Kd.R_below qq257 hb);have BK689:=am (hbox);have GW689:=am ((qq57 : w.heap.size ≤ gb689));have GE689:=am ((qq57 : w.heap.size ≤ gb689));replace HB:=am (below_step qq87 hb);have NB647_689:=am ((qq49 : gb647 ≠ gb689));have NB689_647:=am ((qq53 : gb689 ≠ gb647));replace BK647:=am (blk_below (g:=gb647) (o:=.cells #[.int .i64 t638,.int .i64 t639,.slice Ao10 t640.length co10] 51 (0,0)) qq204 hb);have NB687_689:=am ((qq64 : gb687 ≠ gb689));have NB689_687:=am ((qq66 : gb689 ≠ gb687));replace BK687:=am (blk_below (g:=gb687) (o:=.cells #[.int .i64 0,.int .i64 0,.slice none 0 0] 51 (0,0)) qq203 hb);have NB688_689:=am ((qq90 : gb688 ≠ gb689));have NB689_688:=am ((qq92 : gb689 ≠ gb688));replace BK688:=am (blk_below (g:=gb688) (o:=.cells #[.int .i64 0,.int .i64 0] 37 (0,0)) qq202 hb);clear hb hbox hg;have hnb102:=NB687_647.out;have hnc102:=NB647_687.out;have hnb103:=NB687_688.out;have hnc103:=NB688_687.out;have hnb104:=NB687_689.out;have hnc104:=NB689_687.out;obtain ⟨hcz105_0,hcz105_1,hcz105_2,hfz105_0,hfz105_1,hfz105_2⟩:=bcl3 BK687.out;obtain ⟨Ao106,co106,eo106,_⟩:=Kd.Q_slice HO672.out;subst eo106;have hnb107:=NB688_647.out;have hnc107:=NB647_688.out;have hnb108:=NB688_689.out;have hnc108:=NB689_688.out;obtain ⟨hcz109_0,hcz109_1,hfz109_0,hfz109_1⟩:=bcl2 BK688.out;have hnb110:=NB689_647.out;have hnc110:=NB647_689.out;obtain ⟨hcz111_0,hcz111_1,hcz111_2,hcz111_3,hfz111_0,hfz111_1,hfz111_2,hfz111_3⟩:=bcl4 BK689.out;obtain ⟨Ao112,co112,eo112⟩:=Kd.R_slice HO683.out;subst eo112;obtain ⟨Ao113,co113,eo113⟩:=Kd.R_slice HO686.out;subst eo113;obtain ⟨Ao114,co114,eo114⟩:=Kd.R_slice HO676.out;subst eo114) | ((with_reducible refine gate_callee (f:=52) rfl ?_);refine goesL_ (some 134) rfl rfl Try.func52 (by kernel_rfl) rfl #[.agg #[.int .i64 t668,.int .i64 t669,.slice Ao106 t670.length co106],.int .i64 t673,.slice Ao114 t674.length co114,.agg #[.int .i64 t677,.int .i64 t678],.agg #[.int .i64 t679,.int .i64 t680,.slice Ao112 t681.length co112,.slice Ao113 t684.length co113]] rfl qq177 ?_;(with_reducible refine (impl_PlanFood.calls kj47 t668 t669 _ _ t670 t673 _ _ t674 t677 t678 t679 t680 _ _ t681 _ _ t684 t690 _ ?side1 ?side2 ?side3 ?side4 ?side5 ?side6 ?side7 ?side8 A75.out).mono ?_);(case side1 => refine (Kd.Q_reads' (e:=3) (base:=w.heap.size) (ok:=fun k_ => (True ∧ some k_ ≠ (.slice Ao10 t640.length co10 : Value).ownBlock)) (n:=t670.length) (c:=co106) ?_).2.2;exact qq4);(case side2 => exact qq305);(case side3 => refine (Kd.R_reads' (e:=76) (base:=w.heap.size) (ok:=fun k_ => True) (n:=t674.length) (c:=co114) ?_).2.2;exact qq8);(case side4 => exact qq302);(case side5 => refine (Kd.R_reads' (e:=112) (base:=w.heap.size) (ok:=fun k_ => True) (n:=t681.length) (c:=co112) ?_).2.2;exact qq7);(case side6 => exact qq301);(case side7 => refine (Kd.R_reads' (e:=4) (base:=w.heap.size) (ok:=fun k_ => True) (n:=t684.length) (c:=co113) ?_).2.2;exact qq6);(case side8 => exact (Kd.R_reads' HO686.out).2.1);rintro e w115 ⟨rfl,hb⟩;refine ⟨_,rfl,?_⟩;replace HO_648002:=am (Kd.Q_below (by (with_reducible repeat (first | apply Kd.Q_alloc | apply Kd.Q_drewN | apply Kd.Q_drew));exact (Kd.Q_mono (Kd.Q_mono (Kd.Q_mono (Kd.Q_far (p:=⟨gb689,3,none⟩) (Kd.Q_far (p:=⟨gb689,2,none⟩) (Kd.Q_far (p:=⟨gb689,1,none⟩) (Kd.Q_far (p:=⟨gb689,0,none⟩) (Kd.Q_far (p:=⟨gb688,1,none⟩) (Kd.Q_far (p:=⟨gb688,0,none⟩) (Kd.Q_far (p:=⟨gb687,2,none⟩) (Kd.Q_far (p:=⟨gb687,1,none⟩) (Kd.Q_far (p:=⟨gb687,0,none⟩) (Kd.Q_types (Kd.Q_types (Kd.Q_types HO_648002.out BK687.out (by decide)) BK688.out (by decide)) BK689.out (by decide)) (fun _ hk => hk.1.1.2) (.int .i64 t668)) (fun _ hk => hk.1.1.2) (.int .i64 t669)) (fun _ hk => hk.1.1.2) (.slice Ao106 t670.length co106)) (fun _ hk => hk.1.2) (.int .i64 t677)) (fun _ hk => hk.1.2) (.int .i64 t678)) (fun _ hk => hk.2) (.int .i64 t679)) (fun _ hk => hk.2) (.int .i64 t680)) (fun _ hk => hk.2) (.slice Ao112 t681.length co112)) (fun _ hk => hk.2) (.slice Ao113 t684.length co113)) (fun _ h_ => h_.1)) (fun _ h_ => h_.1)) (fun _ h_ => h_.1))) hb);replace HO672:=am (Kd.Q_below qq4 hb);replace HO676:=am (Kd.R_below qq8 hb);replace HO683:=am (Kd.R_below qq7 hb);replace HO686:=am (Kd.R_below qq6 hb);replace BK647:=am (blk_below (g:=gb647) (o:=.cells #[.int .i64 t638,.int .i64 t639,.slice Ao10 t640.length co10] 51 (0,0)) qq3 hb);replace BK687:=am (blk_below (g:=gb687) (o:=.cells #[.int .i64 t668,.int .i64 t669,.slice Ao106 t670.length co106] 51 (0,0)) qq1 hb);replace BK688:=am (blk_below (g:=gb688) (o:=.cells #[.int .i64 t677,.int .i64 t678] 37 (0,0)) qq2 hb);replace BK689:=am (blk_below (g:=gb689) (o:=.cells #[.int .i64 t679,.int .i64 t680,.slice Ao112 t681.length co112,.slice Ao113 t684.length co113] 27 (0,0)) (by (with_reducible repeat (first | refine dN ?_ _ | refine dD ?_ | refine dA ?_ _));refine blk_put (cs:=#[.int .i64 t679,.int .i64 t680,.slice Ao112 t681.length co112,.slice none 0 0]) ?_ 3 _ rfl;(with_reducible repeat (first | refine dN ?_ _ | refine dD ?_ | refine dA ?_ _));refine blk_put (cs:=#[.int .i64 t679,.int .i64 t680,.slice none 0 0,.slice none 0 0]) ?_ 2 _ rfl;(with_reducible repeat (first | refine dN ?_ _ | refine dD ?_ | refine dA ?_ _));refine blk_put (cs:=#[.int .i64 t679,.int .i64 0,.slice none 0 0,.slice none 0 0]) ?_ 1 _ rfl;(with_reducible repeat (first | refine dN ?_ _ | refine dD ?_ | refine dA ?_ _));refine blk_put (cs:=#[.int .i64 0,.int .i64 0,.slice none 0 0,.slice none 0 0]) ?_ 0 _ rfl;(with_reducible repeat (first | refine dN ?_ _ | refine dD ?_ | refine dA ?_ _));refine blk_far ?_ NB689_688.out _;(with_reducible repeat (first | refine dN ?_ _ | refine dD ?_ | refine dA ?_ _));refine blk_far ?_ NB689_688.out _;(with_reducible repeat (first | refine dN ?_ _ | refine dD ?_ | refine dA ?_ _));refine blk_far ?_ NB689_687.out _;(with_reducible repeat (first | refine dN ?_ _ | refine dD ?_ | refine dA ?_ _));refine blk_far ?_ NB689_687.out _;(with_reducible repeat (first | refine dN ?_ _ | refine dD ?_ | refine dA ?_ _));refine blk_far ?_ NB689_687.out _;(with_reducible repeat (first | refine dN ?_ _ | refine dD ?_ | refine dA ?_ _));exact BK689.out) hb);replace HB:=am (below_step qq58 hb);(try clear hb);(try clear hb2);(try clear hk);(try clear hi)))
             replace HO_648002:=am (Kd.Q_drew HO_648002.out);replace HO672:=am (Kd.Q_drew HO672.out);replace HO676:=am (Kd.R_drew HO676.out);replace HO683:=am (Kd.R_drew HO683.out);replace HO686:=am (Kd.R_drew HO686.out);replace BK647:=am (blk_drew BK647.out);replace BK687:=am (blk_drew BK687.out);replace BK688:=am (blk_drew BK688.out);replace BK689:=am (blk_drew BK689.out);replace HB:=am (below_drew1 HB.out);refine start_ (n:=15) (S:=fun w' => w'.cell? ⟨gb689,0,none⟩ = some (.int .i64 t679) ∧ w'.cell? ⟨gb689,1,none⟩ = some (.int .i64 t680) ∧ w'.cell? ⟨gb689,2,none⟩ = some (.slice Ao112 t681.length co112) ∧ w'.cell? ⟨gb689,3,none⟩ = some (.slice Ao113 t684.length co113) ∧ w'.cell? ⟨gb687,0,none⟩ = some (.int .i64 t668) ∧ w'.cell? ⟨gb687,1,none⟩ = some (.int .i64 t669) ∧ w'.cell? ⟨gb687,2,none⟩ = some (.slice Ao106 t670.length co106)) (ds:=[]) #[Z,Z,Z,Z,Z,Z,Z,Z,Z,Z,Z,Z,Z,Z,Z] (by kernel_rfl) rfl rfl ⟨(blk_cell BK689.out 0).trans rfl,(blk_cell BK689.out 1).trans rfl,(blk_cell BK689.out 2).trans rfl,(blk_cell BK689.out 3).trans rfl,(blk_cell BK687.out 0).trans rfl,(blk_cell BK687.out 1).trans rfl,(blk_cell BK687.out 2).trans rfl⟩ (fun hHeld => ?_);refine with_tabW laws_FnPlans.tab18 laws_FnPlans.bits18 (fun HT_ HW_ => ?_)
             generalize w115.drew = w116 at HO_648002 HO672 HO676 HO683 HO686 BK647 BK687 BK688 BK689 HB hHeld ⊢
             refine pV (i:=0) (N:=some 135) #[Y,Z,Z,Z,Z,Z,Z,Z,Z,Z,Z,Z,Z,Z,Z] rfl rfl qT ?_
             refine pV (i:=1) (N:=some 136) #[Y,Y,Z,Z,Z,Z,Z,Z,Z,Z,Z,Z,Z,Z,Z] rfl rfl qT ?_
             refine pV (i:=2) (N:=some 137) #[Y,Y,Y,Z,Z,Z,Z,Z,Z,Z,Z,Z,Z,Z,Z] rfl rfl qT ?_
             refine pV (i:=3) (N:=some 138) #[Y,Y,Y,Y,Z,Z,Z,Z,Z,Z,Z,Z,Z,Z,Z] rfl rfl qT ?_
             refine pV (i:=4) (N:=some 139) #[Y,Y,Y,Y,Y,Z,Z,Z,Z,Z,Z,Z,Z,Z,Z] rfl rfl qT ?_
             refine pV (i:=8) (N:=some 143) #[Y,Y,Y,Y,Y,Z,Z,Z,Y,Z,Z,Z,Z,Z,Z] rfl rfl qT ?_
             refine pV (i:=9) (N:=some 144) #[Y,Y,Y,Y,Y,Z,Z,Z,Y,Y,Z,Z,Z,Z,Z] rfl rfl qT ?_
             refine tV7 (i:=5) (N:=some 140) #[Y,Y,Y,Y,Y,Y,Z,Z,Y,Y,Z,Z,Z,Z,Z] rfl rfl (take_ofW HT_.out HW_.out (by kernel_rfl)) hHeld ?_
             refine tV7 (i:=7) (N:=some 142) #[Y,Y,Y,Y,Y,Y,Z,Y,Y,Y,Z,Z,Z,Z,Z] rfl rfl (take_ofW HT_.out HW_.out (by kernel_rfl)) hHeld ?_
             refine one_ (i:=6) (N:=some 141) #[Y,Y,Y,Y,Y,Y,Y,Y,Y,Y,Z,Z,Z,Z,Z] rfl rfl (one_of HT_.out (by kernel_rfl)) (by decide) (fun K hK => ?_);refine goes_ Try.func19 (by kernel_rfl) rfl #[.slice Ao112 t681.length co112] (by rfl) rfl rfl qq177 ?_;with_reducible refine (impl_NeedOf.calls kj47 _ _ t681 t691 _ ?side1 ?side2 A96.out).mono ?_
             (case side1 => repeat (first | exact (Kd.R_reads' HO683.out).2.2 | (with_reducible refine cA ?_ _) | (with_reducible refine cN ?_ _) | (with_reducible refine cD ?_)));(case side2 => exact qq301)
             rintro e w117 ⟨rfl,hb⟩
             refine ⟨_,rfl,?_⟩;replace HO_648002:=am (Kd.Q_below qq190 hb);replace HO672:=am (Kd.Q_below qq193 hb);replace HO676:=am (Kd.R_below qq259 hb);replace HO683:=am (Kd.R_below qq258 hb);replace HO686:=am (Kd.R_below qq257 hb);replace BK647:=am (blk_below (g:=gb647) (o:=.cells #[.int .i64 t638,.int .i64 t639,.slice Ao10 t640.length co10] 51 (0,0)) qq204 hb);replace BK687:=am (blk_below (g:=gb687) (o:=.cells #[.int .i64 t668,.int .i64 t669,.slice Ao106 t670.length co106] 51 (0,0)) qq203 hb);replace BK688:=am (blk_below (g:=gb688) (o:=.cells #[.int .i64 t677,.int .i64 t678] 37 (0,0)) qq202 hb);replace BK689:=am (blk_below (g:=gb689) (o:=.cells #[.int .i64 t679,.int .i64 t680,.slice Ao112 t681.length co112,.slice Ao113 t684.length co113] 27 (0,0)) qq201 hb);replace HB:=am (below_step qq58 hb);(try clear hb);(try clear hb2);(try clear hk);(try clear hi);refine hK.out _ _ ⟨(blk_cell BK689.out 0).trans rfl,(blk_cell BK689.out 1).trans rfl,(blk_cell BK689.out 2).trans rfl,(blk_cell BK689.out 3).trans rfl,(blk_cell BK687.out 0).trans rfl,(blk_cell BK687.out 1).trans rfl,(blk_cell BK687.out 2).trans rfl⟩ (fun hHeld => ?_);clear hK K;refine norm_ (a':=?_) ?_ ?_;rotate_left
             ·show Act.put _ (some 141) _ = _
              simp only [Act.put,sA,s0,s1,i64_w,i32_w];rfl
             refine one_ (i:=10) (N:=some 145) #[Y,Y,Y,Y,Y,Y,Y,Y,Y,Y,Y,Z,Z,Z,Z] rfl rfl (one_of HT_.out (by kernel_rfl)) (by decide) (fun K hK => ?_);refine goes_ Try.func47 (by kernel_rfl) rfl #[.agg #[.int .i64 t668,.int .i64 t669,.slice Ao106 t670.length co106],.int .i64 t673,.slice Ao114 t674.length co114] (by rfl) rfl rfl qq177 ?_;with_reducible refine (impl_PlanDays.calls kj47 t668 t669 _ _ t670 t673 _ _ t674 t692 _ ?side1 ?side2 ?side3 ?side4 A97.out).mono ?_
             (case side1 => repeat (first | exact (Kd.Q_reads' HO672.out).2.2 | (with_reducible refine cA ?_ _) | (with_reducible refine cN ?_ _) | (with_reducible refine cD ?_)));(case side2 => exact qq305);(case side3 => repeat (first | exact (Kd.R_reads' HO676.out).2.2 | (with_reducible refine cA ?_ _) | (with_reducible refine cN ?_ _) | (with_reducible refine cD ?_)));(case side4 => exact qq302)
             rintro e w118 ⟨rfl,hb⟩
             refine ⟨_,rfl,?_⟩;replace HO_648002:=am (Kd.Q_below qq190 hb);replace HO672:=am (Kd.Q_below qq193 hb);replace HO676:=am (Kd.R_below qq259 hb);replace HO683:=am (Kd.R_below qq258 hb);replace HO686:=am (Kd.R_below qq257 hb);replace BK647:=am (blk_below (g:=gb647) (o:=.cells #[.int .i64 t638,.int .i64 t639,.slice Ao10 t640.length co10] 51 (0,0)) qq204 hb);replace BK687:=am (blk_below (g:=gb687) (o:=.cells #[.int .i64 t668,.int .i64 t669,.slice Ao106 t670.length co106] 51 (0,0)) qq203 hb);replace BK688:=am (blk_below (g:=gb688) (o:=.cells #[.int .i64 t677,.int .i64 t678] 37 (0,0)) qq202 hb);replace BK689:=am (blk_below (g:=gb689) (o:=.cells #[.int .i64 t679,.int .i64 t680,.slice Ao112 t681.length co112,.slice Ao113 t684.length co113] 27 (0,0)) qq201 hb);replace HB:=am (below_step qq58 hb);(try clear hb);(try clear hb2);(try clear hk);(try clear hi);refine hK.out _ _ ⟨(blk_cell BK689.out 0).trans rfl,(blk_cell BK689.out 1).trans rfl,(blk_cell BK689.out 2).trans rfl,(blk_cell BK689.out 3).trans rfl,(blk_cell BK687.out 0).trans rfl,(blk_cell BK687.out 1).trans rfl,(blk_cell BK687.out 2).trans rfl⟩ (fun hHeld => ?_);clear hK K;refine norm_ (a':=?_) ?_ ?_;rotate_left
             ·show Act.put _ (some 145) _ = _
              simp only [Act.put,sA,s0,s1,i64_w,i32_w];rfl
             refine pV (i:=11) (N:=some 146) #[Y,Y,Y,Y,Y,Y,Y,Y,Y,Y,Y,Y,Z,Z,Z] rfl rfl qT ?_
             refine pV (i:=12) (N:=some 147) #[Y,Y,Y,Y,Y,Y,Y,Y,Y,Y,Y,Y,Y,Z,Z] rfl rfl qT ?_
             refine pV (i:=13) (N:=some 148) #[Y,Y,Y,Y,Y,Y,Y,Y,Y,Y,Y,Y,Y,Y,Z] rfl rfl qT ?_
             refine pV (i:=14) (N:=some 2) #[Y,Y,Y,Y,Y,Y,Y,Y,Y,Y,Y,Y,Y,Y,Y] rfl rfl qT ?_
             refine done_ (done_of HT_.out (by kernel_rfl)) ?_
             try go_wp2
             go_ret
             exact ⟨qq246,qq58⟩

/-- THE ONE PURE STATEMENT of laws_FnPlans: yours. -/
def laws_FnPlans.Pure : Prop := ∀ (l0 : List Int), l0.length ≤ maxLen → l0.length * 1 ≤ 140737488351232 → (∀ x ∈ l0, (Lit.int .u8 x).wf = true) → ∃ k, laws_FnPlans.f k l0 = some true
theorem laws_FnPlans.walk (P : laws_FnPlans.Pure) (a0 : Option Addr) (len0 cap0 : Nat) (z0 : List Int) (w : World) (w0 : (a0 = none ∧ len0 = 0 ∧ cap0 = 0 ∧ z0 = []) ∨ ∃ x, a0 = some x ∧ len0 ≤ cap0 ∧ cap0 ≤ maxLen ∧ z0.length = cap0 ∧ (∀ i, i < z0.length → w.cell? (x.add i) = some (.int .u8 (z0.getD i 0))) ∧ ∀ n ∈ z0, (Lit.int .u8 n).wf = true) (y0 : len0 * 1 ≤ 140737488351232) :
  Calls Try.prog 6 #[.slice a0 len0 cap0] w fun e w' => e = .returned (.bool true) ∧ Below w.heap.size w w':=by
 obtain ⟨l0,rfl,hr0,hm0,hw0,hc0⟩:=ReadsInt.ofRowC w0
 obtain ⟨k,h⟩:=P l0 hm0 y0 hw0
 refine (laws_FnPlans.calls k _ _ l0 true w (Kd.C_of_reads (d:=(0 : Int)) (h1:=fun _ => rfl) hr0) hc0 h).mono ?_
 rintro e w' ⟨rfl,hd⟩
 exact ⟨rfl,hd⟩

end Go.Proofs.Ytcbkknpmeknppaa.PFnPlans
