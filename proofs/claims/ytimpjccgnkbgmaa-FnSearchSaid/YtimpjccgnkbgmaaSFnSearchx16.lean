/- Contracts of functions that the law FnSearch reaches, for its row: lines that the kit's printer wrote for this claim, set shorter by a program of this session (own.py), and what fell in Lean proved anew. Lean checks them. -/
import Derived.Test.YtimpjccgnkbgmaaSFnSearchx0
import Derived.Test.YtimpjccgnkbgmaaSFnSearchx1
import Derived.Test.YtimpjccgnkbgmaaSFnSearchx3
import Derived.Test.YtimpjccgnkbgmaaSFnSearchx6
import Derived.Test.YtimpjccgnkbgmaaSFnSearchx9
import Derived.Test.YtimpjccgnkbgmaaSFnSearchx10
import Derived.Test.YtimpjccgnkbgmaaSFnSearchx12
import Derived.Test.YtimpjccgnkbgmaaSFnSearchx14
import Derived.Test.YtimpjccgnkbgmaaSFnSearchx15
namespace Go.Proofs.Ytimpjccgnkbgmaa.PFnSearch
open Go.RowKit Go.Proofs.YtimpjccgnkbgmaaW.PrintWords Go.Proofs.YtimpjccgnkbgmaaW.PrintLast Go.Proofs.YtimpjccgnkbgmaaW.PrintMore
attribute [local go_sem] max2_int min2_int max_two min_two max_three min_three max_four min_four   -- for this text's walks alone
set_option linter.unusedVariables false
set_option linter.unusedSimpArgs false

abbrev m0_16 : Array Bool := #[Z,Z,Z,Z,Z,Z,Z,Z,Z,Z,Z,Z,Z,Z,Z,Z,Z,Z,Z,Z,Z,Z,Z,Z,Z,Z,Z,Z,Z]
abbrev m1_16 : Array Bool := #[Y,Z,Z,Z,Z,Z,Z,Z,Z,Z,Z,Z,Z,Z,Z,Z,Z,Z,Z,Z,Z,Z,Z,Z,Z,Z,Z,Z,Z]
abbrev m2_16 : Array Bool := #[Y,Y,Z,Z,Z,Z,Z,Z,Z,Z,Z,Z,Z,Z,Z,Z,Z,Z,Z,Z,Z,Z,Z,Z,Z,Z,Z,Z,Z]
abbrev m3_16 : Array Bool := #[Y,Y,Y,Z,Z,Z,Z,Z,Z,Z,Z,Z,Z,Z,Z,Z,Z,Z,Z,Z,Z,Z,Z,Z,Z,Z,Z,Z,Z]
abbrev m4_16 : Array Bool := #[Y,Y,Y,Y,Z,Z,Z,Z,Z,Z,Z,Z,Z,Z,Z,Z,Z,Z,Z,Z,Z,Z,Z,Z,Z,Z,Z,Z,Z]
abbrev m5_16 : Array Bool := #[Y,Y,Y,Y,Y,Z,Z,Z,Z,Z,Z,Z,Z,Z,Z,Z,Z,Z,Z,Z,Z,Z,Z,Z,Z,Z,Z,Z,Z]
abbrev m6_16 : Array Bool := #[Y,Y,Y,Y,Y,Y,Z,Z,Z,Z,Z,Z,Z,Z,Z,Z,Z,Z,Z,Z,Z,Z,Z,Z,Z,Z,Z,Z,Z]
abbrev m7_16 : Array Bool := #[Y,Y,Y,Y,Y,Y,Y,Z,Z,Z,Z,Z,Z,Z,Z,Z,Z,Z,Z,Z,Z,Z,Z,Z,Z,Z,Z,Z,Z]
abbrev m8_16 : Array Bool := #[Y,Y,Y,Y,Y,Y,Y,Y,Z,Z,Z,Z,Z,Z,Z,Z,Z,Z,Z,Z,Z,Z,Z,Z,Z,Z,Z,Z,Z]
abbrev m9_16 : Array Bool := #[Y,Y,Y,Y,Y,Y,Y,Y,Y,Z,Z,Z,Z,Z,Z,Z,Z,Z,Z,Z,Z,Z,Z,Z,Z,Z,Z,Z,Z]
abbrev m10_16 : Array Bool := #[Y,Y,Y,Y,Y,Y,Y,Y,Y,Y,Z,Z,Z,Z,Z,Z,Z,Z,Z,Z,Z,Z,Z,Z,Z,Z,Z,Z,Z]
abbrev m11_16 : Array Bool := #[Y,Y,Y,Y,Y,Y,Y,Y,Y,Y,Y,Z,Z,Z,Z,Z,Z,Z,Z,Z,Z,Z,Z,Z,Z,Z,Z,Z,Z]
abbrev m12_16 : Array Bool := #[Y,Y,Y,Y,Y,Y,Y,Y,Y,Y,Y,Z,Y,Z,Z,Z,Z,Z,Z,Z,Z,Z,Z,Z,Z,Z,Z,Z,Z]
abbrev m13_16 : Array Bool := #[Y,Y,Y,Y,Y,Y,Y,Y,Y,Y,Y,Z,Y,Y,Z,Z,Z,Z,Z,Z,Z,Z,Z,Z,Z,Z,Z,Z,Z]
abbrev m14_16 : Array Bool := #[Y,Y,Y,Y,Y,Y,Y,Y,Y,Y,Y,Z,Y,Y,Y,Z,Z,Z,Z,Z,Z,Z,Z,Z,Z,Z,Z,Z,Z]
abbrev m15_16 : Array Bool := #[Y,Y,Y,Y,Y,Y,Y,Y,Y,Y,Y,Z,Y,Y,Y,Y,Z,Z,Z,Z,Z,Z,Z,Z,Z,Z,Z,Z,Z]
abbrev m16_16 : Array Bool := #[Y,Y,Y,Y,Y,Y,Y,Y,Y,Y,Y,Z,Y,Y,Y,Y,Y,Z,Z,Z,Z,Z,Z,Z,Z,Z,Z,Z,Z]
abbrev m17_16 : Array Bool := #[Y,Y,Y,Y,Y,Y,Y,Y,Y,Y,Y,Z,Y,Y,Y,Y,Y,Z,Z,Z,Y,Z,Z,Z,Z,Z,Z,Z,Z]
abbrev m18_16 : Array Bool := #[Y,Y,Y,Y,Y,Y,Y,Y,Y,Y,Y,Z,Y,Y,Y,Y,Y,Z,Z,Z,Y,Y,Z,Z,Z,Z,Z,Z,Z]
abbrev m19_16 : Array Bool := #[Y,Y,Y,Y,Y,Y,Y,Y,Y,Y,Y,Z,Y,Y,Y,Y,Y,Z,Z,Z,Y,Y,Y,Z,Z,Z,Z,Z,Z]
abbrev m20_16 : Array Bool := #[Y,Y,Y,Y,Y,Y,Y,Y,Y,Y,Y,Z,Y,Y,Y,Y,Y,Z,Z,Z,Y,Y,Y,Y,Z,Z,Z,Z,Z]
abbrev m21_16 : Array Bool := #[Y,Y,Y,Y,Y,Y,Y,Y,Y,Y,Y,Y,Y,Y,Y,Y,Y,Z,Z,Z,Y,Y,Y,Y,Z,Z,Z,Z,Z]
abbrev m22_16 : Array Bool := #[Y,Y,Y,Y,Y,Y,Y,Y,Y,Y,Y,Y,Y,Y,Y,Y,Y,Y,Z,Z,Y,Y,Y,Y,Z,Z,Z,Z,Z]
abbrev m23_16 : Array Bool := #[Y,Y,Y,Y,Y,Y,Y,Y,Y,Y,Y,Y,Y,Y,Y,Y,Y,Y,Z,Y,Y,Y,Y,Y,Z,Z,Z,Z,Z]
abbrev m24_16 : Array Bool := #[Y,Y,Y,Y,Y,Y,Y,Y,Y,Y,Y,Y,Y,Y,Y,Y,Y,Y,Z,Y,Y,Y,Y,Y,Y,Z,Z,Z,Z]
abbrev m25_16 : Array Bool := #[Y,Y,Y,Y,Y,Y,Y,Y,Y,Y,Y,Y,Y,Y,Y,Y,Y,Y,Y,Y,Y,Y,Y,Y,Y,Z,Z,Z,Z]
abbrev m26_16 : Array Bool := #[Y,Y,Y,Y,Y,Y,Y,Y,Y,Y,Y,Y,Y,Y,Y,Y,Y,Y,Y,Y,Y,Y,Y,Y,Y,Y,Z,Z,Z]
abbrev m27_16 : Array Bool := #[Y,Y,Y,Y,Y,Y,Y,Y,Y,Y,Y,Y,Y,Y,Y,Y,Y,Y,Y,Y,Y,Y,Y,Y,Y,Y,Y,Z,Z]
abbrev m28_16 : Array Bool := #[Y,Y,Y,Y,Y,Y,Y,Y,Y,Y,Y,Y,Y,Y,Y,Y,Y,Y,Y,Y,Y,Y,Y,Y,Y,Y,Y,Y,Z]
abbrev m29_16 : Array Bool := #[Y,Y,Y,Y,Y,Y,Y,Y,Y,Y,Y,Y,Y,Y,Y,Y,Y,Y,Y,Y,Y,Y,Y,Y,Y,Y,Y,Y,Y]
abbrev m30_16 : Array Bool := #[Y,Y,Y,Y,Y,Y,Y,Y,Y,Y,Y,Y,Z,Z,Z,Z,Z,Z,Z,Z,Z,Z,Z,Z,Z,Z,Z,Z,Z]
abbrev m31_16 : Array Bool := #[Y,Y,Y,Y,Y,Y,Y,Y,Y,Y,Y,Y,Y,Z,Z,Z,Z,Z,Z,Z,Z,Z,Z,Z,Z,Z,Z,Z,Z]
abbrev m32_16 : Array Bool := #[Y,Y,Y,Y,Y,Y,Y,Y,Y,Y,Y,Y,Y,Y,Z,Z,Z,Z,Z,Z,Z,Z,Z,Z,Z,Z,Z,Z,Z]
abbrev m33_16 : Array Bool := #[Y,Y,Y,Y,Y,Y,Y,Y,Y,Y,Y,Y,Y,Y,Y,Z,Z,Z,Z,Z,Z,Z,Z,Z,Z,Z,Z,Z,Z]
abbrev m34_16 : Array Bool := #[Y,Y,Y,Y,Y,Y,Y,Y,Y,Y,Y,Y,Y,Y,Y,Y,Z,Z,Z,Z,Z,Z,Z,Z,Z,Z,Z,Z,Z]
abbrev m35_16 : Array Bool := #[Y,Y,Y,Y,Y,Y,Y,Y,Y,Y,Y,Y,Y,Y,Y,Y,Y,Z,Z,Z,Z,Z,Z,Z,Z,Z,Z,Z,Z]
abbrev m36_16 : Array Bool := #[Y,Y,Y,Y,Y,Y,Y,Y,Y,Y,Y,Y,Y,Y,Y,Y,Y,Y,Z,Z,Z,Z,Z,Z,Z,Z,Z,Z,Z]
abbrev m37_16 : Array Bool := #[Y,Y,Y,Y,Y,Y,Y,Y,Y,Y,Y,Y,Y,Y,Y,Y,Y,Y,Y,Z,Z,Z,Z,Z,Z,Z,Z,Z,Z]
abbrev m38_16 : Array Bool := #[Y,Y,Y,Y,Y,Y,Y,Y,Y,Y,Y,Y,Y,Y,Y,Y,Y,Y,Y,Y,Z,Z,Z,Z,Z,Z,Z,Z,Z]
abbrev m39_16 : Array Bool := #[Y,Y,Y,Y,Y,Y,Y,Y,Y,Y,Y,Y,Y,Y,Y,Y,Y,Y,Y,Y,Y,Z,Z,Z,Z,Z,Z,Z,Z]
abbrev m40_16 : Array Bool := #[Y,Y,Y,Y,Y,Y,Y,Y,Y,Y,Y,Y,Y,Y,Y,Y,Y,Y,Y,Y,Y,Y,Z,Z,Z,Z,Z,Z,Z]
abbrev m41_16 : Array Bool := #[Y,Y,Y,Y,Y,Y,Y,Y,Y,Y,Y,Y,Y,Y,Y,Y,Y,Y,Y,Y,Y,Y,Y,Z,Z,Z,Z,Z,Z]
abbrev m42_16 : Array Bool := #[Y,Y,Y,Y,Y,Y,Y,Y,Y,Y,Y,Y,Y,Y,Y,Y,Y,Y,Y,Y,Y,Y,Y,Y,Z,Z,Z,Z,Z]
/-! ### laws_FnSearch: function 3 -/
mutual
def laws_FnSearch.l0 : Nat → List Int → Int → Int → List Int → Int → Int → Int → List Int → Option (Bool)
 | 0,_,_,_,_,_,_,_,_ => none
 | k + 1,x0,x4,x5,x6,x7,x615000,x615001,x615002 => if x7 < (x615002.length : Int) then ((impl_Days.f k x615000 x615001 x615002 x4 x7).bind fun t618 => ((laws_contains.f k x6 x7).bind fun t619 => (if t618 ≥ 0 then (if (t619 != (decide (t618 ≤ x5))) = true then (some false) else (laws_FnSearch.l0 k x0 x4 x5 x6 (wrap64 (x7 + 1)) x615000 x615001 x615002)) else (if (t619 != false) = true then (some false) else (laws_FnSearch.l0 k x0 x4 x5 x6 (wrap64 (x7 + 1)) x615000 x615001 x615002))))) else ((spec_DrawSearchOrder.f k x0).bind fun bt620 => ((impl_SearchOrder.f k bt620.1 bt620.2.1 bt620.2.2.1 bt620.2.2.2.1 bt620.2.2.2.2).bind fun t630 => (laws_FnSearch.l1 k x0 bt620.2.2.2.1 bt620.2.2.2.2 t630 0 bt620.1 bt620.2.1 bt620.2.2.1)))
def laws_FnSearch.l1 : Nat → List Int → Int → List Int → List Int → Int → Int → Int → List Int → Option (Bool)
 | 0,_,_,_,_,_,_,_,_ => none
 | k + 1,x0,x10,x11,x12,x13,x630000,x630001,x630002 => if x13 < (x11.length : Int) then (if 0 ≤ x13 then ((laws_contains.f k x12 (rd x11 x13)).bind fun t634 => ((impl_Days.f k x630000 x630001 x630002 x10 (rd x11 x13)).bind fun t636 => (if (t634 != (decide (t636 ≥ 0))) = true then (some false) else (laws_FnSearch.l1 k x0 x10 x11 x12 (wrap64 (x13 + 1)) x630000 x630001 x630002)))) else (none)) else (laws_FnSearch.l2 k x0 x10 x11 x12 0 x630000 x630001 x630002)
def laws_FnSearch.l2 : Nat → List Int → Int → List Int → List Int → Int → Int → Int → List Int → Option (Bool)
 | 0,_,_,_,_,_,_,_,_ => none
 | k + 1,x0,x10,x11,x12,x14,x630000,x630001,x630002 => if x14 < (x12.length : Int) then (if 0 ≤ x14 then ((laws_contains.f k x11 (rd x12 x14)).bind fun t638 => (if t638 = true then (if x14 > 0 then (if 0 ≤ (wrap64 (x14 - 1)) then (if (wrap64 (x14 - 1)) < (x12.length : Int) then ((impl_Days.f k x630000 x630001 x630002 x10 (rd x12 (wrap64 (x14 - 1)))).bind fun t640 => ((impl_Days.f k x630000 x630001 x630002 x10 (rd x12 x14)).bind fun t642 => (if t640 > t642 then (some false) else (laws_FnSearch.l2 k x0 x10 x11 x12 (wrap64 (x14 + 1)) x630000 x630001 x630002)))) else (none)) else (none)) else (laws_FnSearch.l2 k x0 x10 x11 x12 (wrap64 (x14 + 1)) x630000 x630001 x630002)) else (some false))) else (none)) else ((spec_DrawMeetDay.f k x0).bind fun bt643 => ((impl_MeetDay.f k bt643.1 bt643.2.1 bt643.2.2.1 bt643.2.2.2.1 bt643.2.2.2.2.1 bt643.2.2.2.2.2).bind fun bt654 => (if bt654.1 ≥ 0 then (if bt654.1 < bt643.2.2.2.2.2 then (laws_FnSearch.j3 k x0 true) else ((laws_contains.f k bt643.2.2.2.2.1 bt654.2).bind fun t656 => (if t656 = true then ((impl_Days.f k bt643.1 bt643.2.1 bt643.2.2.1 bt643.2.2.2.1 bt654.2).bind fun t657 => (laws_FnSearch.j3 k x0 (decide (t657 > (wrap64 (bt654.1 - bt643.2.2.2.2.2)))))) else (laws_FnSearch.j3 k x0 true)))) else (laws_FnSearch.j3 k x0 false))))
def laws_FnSearch.j3 : Nat → List Int → Bool → Option (Bool)
 | 0,_,_ => none
 | k + 1,x0,x162 => if x162 = true then (some false) else ((spec_DrawStillIn.f k x0).bind fun bt658 => ((impl_StillIn.f k bt658.1 bt658.2).bind fun t664 => (laws_FnSearch.l3 k bt658.1 bt658.2 t664 0)))
def laws_FnSearch.l3 : Nat → List Int → List Int → List Int → Int → Option (Bool)
 | 0,_,_,_,_ => none
 | k + 1,x21,x22,x23,x24 => if x24 < (x21.length : Int) then (if 0 ≤ x24 then ((laws_contains.f k x23 (rd x21 x24)).bind fun t668 => ((impl_IsFound.f k x21 x22 (rd x21 x24)).bind fun t670 => (if (t668 == t670) = true then (some false) else (laws_FnSearch.l3 k x21 x22 x23 (wrap64 (x24 + 1)))))) else (none)) else (some (decide ((x23.length : Int) ≤ (x21.length : Int))))
end
def laws_FnSearch.f (k : Nat) (l0 : List Int) : Option (Bool) := (laws_big.f l0).bind fun t606 => (if t606 = true then (some true) else ((spec_DrawSearchArea.f k l0).bind fun bt607 => ((impl_SearchArea.f k bt607.1 bt607.2.1 bt607.2.2.1 bt607.2.2.2.1 bt607.2.2.2.2).bind fun t615 => (laws_FnSearch.l0 k l0 bt607.2.2.2.1 bt607.2.2.2.2 t615 0 bt607.1 bt607.2.1 bt607.2.2.1))))
def laws_FnSearch.T16 : Bool × List (List Nat × List Nat) := (true, [([], []), ([], []), ([], []), ([1, 2], [1, 2]), ([3], [3]), ([0, 4], [0, 4]), ([], []), ([], []), ([], []), ([], []), ([8, 9], [8, 9]), ([10], [10]), ([6, 7, 11, 5], [6, 7, 11]), ([12], [12]), ([5, 13], [5, 13])])
def laws_FnSearch.B16 : List Nat := [0, 0, 0, 6, 14, 31, 0, 0, 0, 0, 768, 1792, 4095, 8191, 16383]
theorem laws_FnSearch.tab16 : rtab .any (opsOf Try.f3 16) = laws_FnSearch.T16 := by kernel_rfl
theorem laws_FnSearch.bits16 : waitsOk laws_FnSearch.T16.2 laws_FnSearch.B16 = true := by kernel_rfl
def laws_FnSearch.T21 : Bool × List (List Nat × List Nat) := (true, [([], []), ([], []), ([], []), ([1, 2], [1, 2]), ([3], [3]), ([0, 4], [0, 4]), ([5], [5]), ([6, 5], [6]), ([7], [7]), ([8, 7], [7, 8]), ([9, 7, 7], [7, 9]), ([10], [10]), ([10], [10]), ([10], [10]), ([10], [10]), ([14, 10], [10, 14]), ([13, 15, 10], [10, 13, 15]), ([16, 10], [10, 16]), ([11, 12, 17, 10, 10], [10, 11, 12, 17]), ([10], [10]), ([10], [10]), ([10], [10]), ([10], [10]), ([21, 22, 10], [10, 21, 22]), ([23, 10], [10, 23]), ([19, 20, 24, 18, 10], [10, 19, 20, 24]), ([18, 25, 10], [10, 18, 25]), ([10, 26, 7], [7, 10, 26]), ([7, 27], [7, 27])])
def laws_FnSearch.B21 : List Nat := [0, 0, 0, 6, 14, 31, 63, 127, 255, 511, 1023, 2047, 2047, 2047, 2047, 18431, 59391, 124927, 262143, 2047, 2047, 2047, 2047, 6293503, 14682111, 33554431, 67108863, 134217727, 268435455]
theorem laws_FnSearch.tab21 : rtab .any (opsOf Try.f3 21) = laws_FnSearch.T21 := by kernel_rfl
theorem laws_FnSearch.bits21 : waitsOk laws_FnSearch.T21.2 laws_FnSearch.B21 = true := by kernel_rfl
def laws_FnSearch.T32 : Bool × List (List Nat × List Nat) := (true, [([], []), ([], []), ([], []), ([1, 2], [1, 2]), ([3], [3]), ([0, 4], [0, 4]), ([], []), ([], []), ([], []), ([], []), ([8, 9], [8, 9]), ([10], [10]), ([6, 7, 11, 5], [6, 7, 11]), ([5, 12], [5, 12])])
def laws_FnSearch.B32 : List Nat := [0, 0, 0, 6, 14, 31, 0, 0, 0, 0, 768, 1792, 4095, 8191]
theorem laws_FnSearch.tab32 : rtab .any (opsOf Try.f3 32) = laws_FnSearch.T32 := by kernel_rfl
theorem laws_FnSearch.bits32 : waitsOk laws_FnSearch.T32.2 laws_FnSearch.B32 = true := by kernel_rfl
set_option maxHeartbeats 8000000 in
set_option maxRecDepth 100000 in
theorem laws_FnSearch.calls (k : Nat) (A0 : Option Addr) (c0 : Nat) (l0 : List Int) (r : Bool) (w : World) (hr0 : Kd.C (Kd.int .u8) w A0 l0.length l0) (hc0 : l0.length ≤ c0) (h : laws_FnSearch.f k l0 = some r) :
  Calls Try.prog 3 #[.slice A0 l0.length c0] w fun e w' => e = .returned (.bool r) ∧ Below w.heap.size w w':=by
 have hu26:=Try.underlying26;have HR0:=am hr0;have HC0:=am hc0;clear hr0 hc0;have HB:=am qq354;have H : ((laws_big.f l0).bind fun t606 => (if t606 = true then (some true) else ((spec_DrawSearchArea.f k l0).bind fun bt607 => ((impl_SearchArea.f k bt607.1 bt607.2.1 bt607.2.2.1 bt607.2.2.2.1 bt607.2.2.2.2).bind fun t615 => (laws_FnSearch.l0 k l0 bt607.2.2.2.1 bt607.2.2.2.2 t615 0 bt607.1 bt607.2.1 bt607.2.2.1))))) = some r:=h;clear h;replace H:=bS.mp H;obtain ⟨t606,A20,H⟩:=H;replace H : (if t606 = true then (some true) else ((spec_DrawSearchArea.f k l0).bind fun bt607 => ((impl_SearchArea.f k bt607.1 bt607.2.1 bt607.2.2.1 bt607.2.2.2.1 bt607.2.2.2.2).bind fun t615 => (laws_FnSearch.l0 k l0 bt607.2.2.2.1 bt607.2.2.2.2 t615 0 bt607.1 bt607.2.1 bt607.2.2.1)))) = some r:=H;have A2:=am A20;clear A20
 by_cases c3 : t606 = true
 ·subst c3;have H1 : (some true) = some r:=by rw [if_pos rfl] at H;exact H
  clear H;have H:=H1;clear H1;obtain rfl:=Option.some.inj H
  go_enter Try.func3,Try.ntmps3
  go_wp2_with (first | ((with_reducible refine gate_callee (f:=4) rfl ?_);refine goesL_ (some 26) rfl rfl Try.func4 (by kernel_rfl) rfl #[.slice A0 l0.length c0] rfl qq139 ?_;(with_reducible refine (laws_big.calls _ _ l0 true _ ?side1 ?side2 A2.out).mono ?_);(case side1 => exact qq143);(case side2 => exact HC0.out);rintro e w' ⟨rfl,⟨nd,rfl⟩⟩;refine ⟨_,rfl,?_⟩))
  go_ret
  exact ⟨qq216,qq176⟩
 ·replace c3:=Bool.eq_false_iff.mpr c3;subst c3;have H1 : ((spec_DrawSearchArea.f k l0).bind fun bt607 => ((impl_SearchArea.f k bt607.1 bt607.2.1 bt607.2.2.1 bt607.2.2.2.1 bt607.2.2.2.2).bind fun t615 => (laws_FnSearch.l0 k l0 bt607.2.2.2.1 bt607.2.2.2.2 t615 0 bt607.1 bt607.2.1 bt607.2.2.1))) = some r:=by rw [if_neg (show ¬ (false = true) by decide)] at H;exact H
  clear H;have H:=H1;clear H1;replace H:=bS.mp H;obtain ⟨⟨t607,t608,t609,t612,t613⟩,A40,H⟩:=H;replace H : ((impl_SearchArea.f k t607 t608 t609 t612 t613).bind fun t615 => (laws_FnSearch.l0 k l0 t612 t613 t615 0 t607 t608 t609)) = some r:=H;have A4:=am A40;clear A40;replace H:=bS.mp H;obtain ⟨t615,A50,H⟩:=H;replace H : (laws_FnSearch.l0 k l0 t612 t613 t615 0 t607 t608 t609) = some r:=H;have A5:=am A50;clear A50;have H':=am H;clear H
  go_enter Try.func3,Try.ntmps3
  go_wp2_with (first | ((with_reducible refine gate_callee (f:=4) rfl ?_);refine goesL_ (some 26) rfl rfl Try.func4 (by kernel_rfl) rfl #[.slice A0 l0.length c0] rfl qq139 ?_;(with_reducible refine (laws_big.calls _ _ l0 false _ ?side1 ?side2 A2.out).mono ?_);(case side1 => exact qq143);(case side2 => exact HC0.out);rintro e w' ⟨rfl,⟨nd,rfl⟩⟩;refine ⟨_,rfl,?_⟩) | ((with_reducible refine gate_callee (f:=5) rfl ?_);refine goesL_ (some 29) rfl rfl Try.func5 (by kernel_rfl) rfl #[.slice A0 l0.length c0] rfl qq139 ?_;(with_reducible refine (spec_DrawSearchArea.calls k _ _ l0 t607 t608 t609 t612 t613 _ ?side1 ?side2 A4.out).mono ?_);(case side1 => exact qq143);(case side2 => exact HC0.out);rintro e w6 ⟨v610,rfl,ho0,hb⟩;refine ⟨_,rfl,?_⟩;have HO611:=am qq338;replace HB:=am qq358;(try clear hb);(try clear hb2);(try clear hk);(try clear hi);(try clear ho0)) | ((with_reducible refine gate_dst (N:=3) rfl ?_);refine box_event ?hg (N:=3) ?hd (cs:=#[.int .i64 0,.int .i64 0,.slice none 0 0]) (t:=26) ?hr ?_;(case hd => rfl);(case hg => rfl);(case hr => exact qq261);intro gb614 hg w7 hbox hb;replace HO611:=am (Kd.Q_below (by (with_reducible repeat (first | apply Kd.Q_alloc | apply Kd.Q_drewN | apply Kd.Q_drew));exact HO611.out) hb);have BK614:=am (hbox);have GW614:=am ((qq108 : w.heap.size ≤ gb614));have GE614:=am ((qq108 : w.heap.size ≤ gb614));replace HB:=am qq358;clear hb hbox hg;obtain ⟨hcz8_0,hcz8_1,hcz8_2,hfz8_0,hfz8_1,hfz8_2⟩:=bcl3 BK614.out;obtain ⟨Ao9,co9,eo9,_⟩:=Kd.Q_slice HO611.out;subst eo9) | ((with_reducible refine gate_callee (f:=6) rfl ?_);refine goesL_ (some 36) rfl rfl Try.func6 (by kernel_rfl) rfl #[.agg #[.int .i64 t607,.int .i64 t608,.slice Ao9 t609.length co9],.int .i64 t612,.int .i64 t613] rfl qq139 ?_;(with_reducible refine (impl_SearchArea.calls k t607 t608 _ _ t609 t612 t613 t615 _ ?side1 ?side2 A5.out).mono ?_);(case side1 => refine (Kd.Q_reads' (e:=3) (base:=w.heap.size) (ok:=fun k_ => True) (n:=t609.length) (c:=co9) ?_).2.2;exact qq18);(case side2 => exact (Kd.Q_reads' HO611.out).2.1);rintro e w10 ⟨v616,rfl,ho0,hb⟩;refine ⟨_,rfl,?_⟩;have HO617:=am (Kd.R_lower (Kd.R_new' ho0 (Kd.Q_lt qq18)) (below_size qq109));replace HO611:=am (Kd.Q_elder' qq18 (Kd.R_base ho0) hb);replace BK614:=am (blk_below (g:=gb614) (o:=.cells #[.int .i64 t607,.int .i64 t608,.slice Ao9 t609.length co9] 26 (0,0)) (by (with_reducible repeat (first | refine dN ?_ _ | refine dD ?_ | refine dA ?_ _));refine blk_put (cs:=#[.int .i64 t607,.int .i64 t608,.slice none 0 0]) ?_ 2 _ rfl;(with_reducible repeat (first | refine dN ?_ _ | refine dD ?_ | refine dA ?_ _));refine blk_put (cs:=#[.int .i64 t607,.int .i64 0,.slice none 0 0]) ?_ 1 _ rfl;(with_reducible repeat (first | refine dN ?_ _ | refine dD ?_ | refine dA ?_ _));refine blk_put (cs:=#[.int .i64 0,.int .i64 0,.slice none 0 0]) ?_ 0 _ rfl;(with_reducible repeat (first | refine dN ?_ _ | refine dD ?_ | refine dA ?_ _));exact BK614.out) hb);replace HB:=am qq367;(try clear hb);(try clear hb2);(try clear hk);(try clear hi);(try clear ho0)))
  go_loopg [7] k (fun kq v7 w' => ∃ (x7_1 : Int),v7 = .int .i64 x7_1 ∧ Aside0 (laws_FnSearch.l0 kq l0 t612 t613 t615 x7_1 t607 t608 t609 = some r) ∧ Aside0 (kq ≤ k) ∧ Aside0 (Kd.R (Kd.int .i64) 3 w' w.heap.size (fun k_ => some k_ ≠ ((.slice Ao9 t609.length co9) : Value).ownBlock) v616 t615) ∧ Aside0 (Kd.Q (Kd.int .i64) 3 w' w.heap.size (fun k_ => some k_ ≠ (v616 : Value).ownBlock) (.slice Ao9 t609.length co9) t609) ∧ Aside0 (w'.heap[gb614]? = some (.cells #[.int .i64 t607,.int .i64 t608,(.slice Ao9 t609.length co9)] 26 (0,0))) ∧ Aside0 (Below w.heap.size w w'))
  case atStart => exact ⟨(0),qq260,H',⟨Nat.le_refl _⟩,⟨by (with_reducible repeat (first | apply kA | apply kN | apply kD));exact Kd.R_mono HO617.out (fun _ hk => hk.2)⟩,⟨by (with_reducible repeat (first | apply Kd.Q_alloc | apply Kd.Q_drewN | apply Kd.Q_drew));exact Kd.Q_mono HO611.out (fun _ hk => hk.2)⟩,⟨qq180⟩,⟨qq109⟩⟩
  case round =>
   clear H'
   try clear p2
   try clear c3
   try clear c4
   try clear c5
   try clear c6
   try clear hcz8_0
   try clear hcz8_1
   try clear hcz8_2
   try clear hfz8_0
   try clear hfz8_1
   try clear hfz8_2
   obtain ⟨x7_1,rfl,HA,HK1,HO_6,HO_615002,BK614,HB⟩:=hrel
   cases gk with
   | zero => exact absurd HA.out (by simp [laws_FnSearch.l0])
   | succ k1 =>
    have H:=HA.out;clear HA;simp only [laws_FnSearch.l0] at H
    by_cases c11 : x7_1 < (t609.length : Int)
    ·rw [if_pos c11] at H;have c11b0 : decide (x7_1 < (t609.length : Int)) = true:=decide_eq_true c11;clear c11;replace H:=bS.mp H;obtain ⟨t618,A120,H⟩:=H;replace H : ((laws_contains.f k1 t615 x7_1).bind fun t619 => (if t618 ≥ 0 then (if (t619 != (decide (t618 ≤ t613))) = true then (some false) else (laws_FnSearch.l0 k1 l0 t612 t613 t615 (wrap64 (x7_1 + 1)) t607 t608 t609)) else (if (t619 != false) = true then (some false) else (laws_FnSearch.l0 k1 l0 t612 t613 t615 (wrap64 (x7_1 + 1)) t607 t608 t609)))) = some r:=H;have A12:=am A120;clear A120;replace H:=bS.mp H;obtain ⟨t619,A130,H⟩:=H;replace H : (if t618 ≥ 0 then (if (t619 != (decide (t618 ≤ t613))) = true then (some false) else (laws_FnSearch.l0 k1 l0 t612 t613 t615 (wrap64 (x7_1 + 1)) t607 t608 t609)) else (if (t619 != false) = true then (some false) else (laws_FnSearch.l0 k1 l0 t612 t613 t615 (wrap64 (x7_1 + 1)) t607 t608 t609))) = some r:=H;have A13:=am A130;clear A130
     by_cases c14 : t618 ≥ 0
     ·rw [if_pos c14] at H;have c14b0 : decide (0 ≤ t618) = true:=decide_eq_true c14;clear c14
      by_cases c15 : (t619 != (decide (t618 ≤ t613))) = true
      ·rw [if_pos c15] at H;have c15b0 : (t619 != (decide (t618 ≤ t613))) = true:=c15;(try (have c15b1 : decide (t619 = (decide (t618 ≤ t613))) = false:=by simpa using c15));(try (have c15b2 : (t619 == (decide (t618 ≤ t613))) = false:=by simpa using c15));(try (have c15b3 : ¬ (t619 = (decide (t618 ≤ t613))):=by simpa using c15));clear c15;obtain rfl:=Option.some.inj H;obtain ⟨hcz16_0,hcz16_1,hcz16_2,hfz16_0,hfz16_1,hfz16_2⟩:=bcl3 BK614.out;go_wp2_with (first | ((with_reducible refine gate_callee (f:=7) rfl ?_);refine goesL_ (some 47) rfl rfl Try.func7 (by kernel_rfl) rfl #[.agg #[.int .i64 t607,.int .i64 t608,.slice Ao9 t609.length co9],.int .i64 t612,.int .i64 x7_1] rfl qq139 ?_;(with_reducible refine (impl_Days.calls k1 t607 t608 _ _ t609 t612 x7_1 t618 _ ?side1 ?side2 A12.out).mono ?_);(case side1 => exact qq82);(case side2 => exact qq264);rintro e w17 ⟨rfl,hb⟩;refine ⟨_,rfl,?_⟩;replace HO_6:=am (Kd.R_below qq250 hb);replace HO_615002:=am qq368;replace BK614:=am qq320;replace HB:=am qq367;(try clear hb);(try clear hb2);(try clear hk);(try clear hi);obtain ⟨Ao18,co18,eo18⟩:=Kd.R_slice HO_6.out;subst eo18) | ((with_reducible refine gate_callee (f:=8) rfl ?_);refine goesL_ (some 50) rfl rfl Try.func8 (by kernel_rfl) rfl #[.slice Ao18 t615.length co18,.int .i64 x7_1] rfl qq139 ?_;(with_reducible refine (laws_contains.calls k1 _ _ t615 x7_1 t619 _ ?side1 ?side2 A13.out).mono ?_);(case side1 => exact qq96);(case side2 => exact qq271);rintro e w' ⟨rfl,⟨nd,rfl⟩⟩;refine ⟨_,rfl,?_⟩))
       go_ret
       exact ⟨qq216,qq109⟩
      ·rw [if_neg c15] at H;have c15b0 : (t619 != (decide (t618 ≤ t613))) = false:=by simpa using c15
       (try (have c15b1 : decide (t619 = (decide (t618 ≤ t613))) = true:=by simpa using c15));(try (have c15b2 : (t619 == (decide (t618 ≤ t613))) = true:=by simpa using c15));clear c15;have H':=am H;clear H;obtain ⟨hcz19_0,hcz19_1,hcz19_2,hfz19_0,hfz19_1,hfz19_2⟩:=bcl3 BK614.out;go_wp2_with (first | ((with_reducible refine gate_callee (f:=7) rfl ?_);refine goesL_ (some 47) rfl rfl Try.func7 (by kernel_rfl) rfl #[.agg #[.int .i64 t607,.int .i64 t608,.slice Ao9 t609.length co9],.int .i64 t612,.int .i64 x7_1] rfl qq139 ?_;(with_reducible refine (impl_Days.calls k1 t607 t608 _ _ t609 t612 x7_1 t618 _ ?side1 ?side2 A12.out).mono ?_);(case side1 => exact qq82);(case side2 => exact qq264);rintro e w20 ⟨rfl,hb⟩;refine ⟨_,rfl,?_⟩;replace HO_6:=am (Kd.R_below qq250 hb);replace HO_615002:=am qq368;replace BK614:=am qq320;replace HB:=am qq367;(try clear hb);(try clear hb2);(try clear hk);(try clear hi);obtain ⟨Ao21,co21,eo21⟩:=Kd.R_slice HO_6.out;subst eo21) | ((with_reducible refine gate_callee (f:=8) rfl ?_);refine goesL_ (some 50) rfl rfl Try.func8 (by kernel_rfl) rfl #[.slice Ao21 t615.length co21,.int .i64 x7_1] rfl qq139 ?_;(with_reducible refine (laws_contains.calls k1 _ _ t615 x7_1 t619 _ ?side1 ?side2 A13.out).mono ?_);(case side1 => exact qq96);(case side2 => exact qq271);rintro e w' ⟨rfl,⟨nd,rfl⟩⟩;refine ⟨_,rfl,?_⟩))
       go_roundg k1
       case measure => have:=HK1.out;omega
       case rel => exact ⟨(wrap64 (x7_1 + 1)),qq260,H',⟨qq275⟩,⟨qq250⟩,⟨qq164⟩,⟨qq180⟩,⟨qq109⟩⟩
     ·rw [if_neg c14] at H;have c14b0 : decide (0 ≤ t618) = false:=decide_eq_false c14;clear c14
      by_cases c22 : (t619 != false) = true
      ·rw [if_pos c22] at H;have c22b0 : (t619 != false) = true:=c22;(try (have c22b1 : decide (t619 = false) = false:=by simpa using c22));(try (have c22b2 : (t619 == false) = false:=by simpa using c22));(try (have c22b3 : ¬ (t619 = false):=by simpa using c22));clear c22;obtain rfl:=Option.some.inj H;obtain ⟨hcz23_0,hcz23_1,hcz23_2,hfz23_0,hfz23_1,hfz23_2⟩:=bcl3 BK614.out;go_wp2_with (first | ((with_reducible refine gate_callee (f:=7) rfl ?_);refine goesL_ (some 47) rfl rfl Try.func7 (by kernel_rfl) rfl #[.agg #[.int .i64 t607,.int .i64 t608,.slice Ao9 t609.length co9],.int .i64 t612,.int .i64 x7_1] rfl qq139 ?_;(with_reducible refine (impl_Days.calls k1 t607 t608 _ _ t609 t612 x7_1 t618 _ ?side1 ?side2 A12.out).mono ?_);(case side1 => exact qq82);(case side2 => exact qq264);rintro e w24 ⟨rfl,hb⟩;refine ⟨_,rfl,?_⟩;replace HO_6:=am (Kd.R_below qq250 hb);replace HO_615002:=am qq368;replace BK614:=am qq320;replace HB:=am qq367;(try clear hb);(try clear hb2);(try clear hk);(try clear hi);obtain ⟨Ao25,co25,eo25⟩:=Kd.R_slice HO_6.out;subst eo25) | ((with_reducible refine gate_callee (f:=8) rfl ?_);refine goesL_ (some 50) rfl rfl Try.func8 (by kernel_rfl) rfl #[.slice Ao25 t615.length co25,.int .i64 x7_1] rfl qq139 ?_;(with_reducible refine (laws_contains.calls k1 _ _ t615 x7_1 t619 _ ?side1 ?side2 A13.out).mono ?_);(case side1 => exact qq96);(case side2 => exact qq271);rintro e w' ⟨rfl,⟨nd,rfl⟩⟩;refine ⟨_,rfl,?_⟩))
       go_ret
       exact ⟨qq216,qq109⟩
      ·rw [if_neg c22] at H;have c22b0 : (t619 != false) = false:=by simpa using c22
       (try (have c22b1 : decide (t619 = false) = true:=by simpa using c22));(try (have c22b2 : (t619 == false) = true:=by simpa using c22));clear c22;have H':=am H;clear H;obtain ⟨hcz26_0,hcz26_1,hcz26_2,hfz26_0,hfz26_1,hfz26_2⟩:=bcl3 BK614.out;go_wp2_with (first | ((with_reducible refine gate_callee (f:=7) rfl ?_);refine goesL_ (some 47) rfl rfl Try.func7 (by kernel_rfl) rfl #[.agg #[.int .i64 t607,.int .i64 t608,.slice Ao9 t609.length co9],.int .i64 t612,.int .i64 x7_1] rfl qq139 ?_;(with_reducible refine (impl_Days.calls k1 t607 t608 _ _ t609 t612 x7_1 t618 _ ?side1 ?side2 A12.out).mono ?_);(case side1 => exact qq82);(case side2 => exact qq264);rintro e w27 ⟨rfl,hb⟩;refine ⟨_,rfl,?_⟩;replace HO_6:=am (Kd.R_below qq250 hb);replace HO_615002:=am qq368;replace BK614:=am qq320;replace HB:=am qq367;(try clear hb);(try clear hb2);(try clear hk);(try clear hi);obtain ⟨Ao28,co28,eo28⟩:=Kd.R_slice HO_6.out;subst eo28) | ((with_reducible refine gate_callee (f:=8) rfl ?_);refine goesL_ (some 50) rfl rfl Try.func8 (by kernel_rfl) rfl #[.slice Ao28 t615.length co28,.int .i64 x7_1] rfl qq139 ?_;(with_reducible refine (laws_contains.calls k1 _ _ t615 x7_1 t619 _ ?side1 ?side2 A13.out).mono ?_);(case side1 => exact qq96);(case side2 => exact qq271);rintro e w' ⟨rfl,⟨nd,rfl⟩⟩;refine ⟨_,rfl,?_⟩))
       go_roundg k1
       case measure => have:=HK1.out;omega
       case rel => exact ⟨(wrap64 (x7_1 + 1)),qq260,H',⟨qq275⟩,⟨qq250⟩,⟨qq164⟩,⟨qq180⟩,⟨qq109⟩⟩
    ·rw [if_neg c11] at H;have c11b0 : decide (x7_1 < (t609.length : Int)) = false:=decide_eq_false c11;clear c11;replace H:=bS.mp H;obtain ⟨⟨t620,t621,t622,t625,t626⟩,A290,H⟩:=H;replace H : ((impl_SearchOrder.f k1 t620 t621 t622 t625 t626).bind fun t630 => (laws_FnSearch.l1 k1 l0 t625 t626 t630 0 t620 t621 t622)) = some r:=H;have A29:=am A290;clear A290;replace H:=bS.mp H;obtain ⟨t630,A300,H⟩:=H;replace H : (laws_FnSearch.l1 k1 l0 t625 t626 t630 0 t620 t621 t622) = some r:=H;have A30:=am A300;clear A300;have H':=am H;clear H;obtain ⟨hcz31_0,hcz31_1,hcz31_2,hfz31_0,hfz31_1,hfz31_2⟩:=bcl3 BK614.out;go_wp2_with (first | ((with_reducible refine gate_callee (f:=9) rfl ?_);refine goesL_ (some 61) rfl rfl Try.func9 (by kernel_rfl) rfl #[.slice A0 l0.length c0] rfl qq139 ?_;(with_reducible refine (spec_DrawSearchOrder.calls k1 _ _ l0 t620 t621 t622 t625 t626 _ ?side1 ?side2 A29.out).mono ?_);(case side1 => exact qq95);(case side2 => exact HC0.out);rintro e w32 ⟨v623,v627,rfl,ho0,ho1,hb⟩;refine ⟨_,rfl,?_⟩;have HO624:=am (Kd.Q_lower (Kd.Q_new' (Kd.Q_new' ho0 (Kd.R_lt qq250)) (Kd.Q_lt qq164)) (below_size qq109));have HO628:=am (Kd.R_lower (Kd.R_new' (Kd.R_new' ho1 (Kd.R_lt qq250)) (Kd.Q_lt qq164)) (below_size qq109));replace HO_6:=am (Kd.R_mono (Kd.R_told (Kd.R_told (Kd.R_old qq250 hb) (Kd.Q_base ho0)) (Kd.R_base ho1)) (fun _ h_ => h_.1));replace HO_615002:=am qq321;replace BK614:=am qq320;replace HB:=am qq367;(try clear hb);(try clear hb2);(try clear hk);(try clear hi);(try clear ho0);(try clear ho1)) | ((with_reducible refine gate_dst (N:=9) rfl ?_);refine box_event ?hg (N:=9) ?hd (cs:=#[.int .i64 0,.int .i64 0,.slice none 0 0]) (t:=26) ?hr ?_;(case hd => rfl);(case hg => rfl);(case hr => exact qq261);intro gb629 hg w33 hbox hb;replace HO_6:=am (Kd.R_below qq250 hb);replace HO_615002:=am qq368;replace HO624:=am (Kd.Q_below (by (with_reducible repeat (first | apply Kd.Q_alloc | apply Kd.Q_drewN | apply Kd.Q_drew));exact HO624.out) hb);replace HO628:=am (Kd.R_below (by (with_reducible repeat (first | apply kA | apply kN | apply kD));exact HO628.out) hb);have BK629:=am (hbox);have GW629:=am ((qq63 : w.heap.size ≤ gb629));have GE629:=am ((qq63 : w.heap.size ≤ gb629));replace HB:=am qq367;have NB614_629:=am ((qq37 : gb614 ≠ gb629));have NB629_614:=am ((qq38 : gb629 ≠ gb614));replace BK614:=am qq320;clear hb hbox hg;have hnb34:=NB629_614.out;have hnc34:=NB614_629.out;obtain ⟨hcz35_0,hcz35_1,hcz35_2,hfz35_0,hfz35_1,hfz35_2⟩:=bcl3 BK629.out;obtain ⟨Ao36,co36,eo36,_⟩:=Kd.Q_slice HO624.out;subst eo36;obtain ⟨Ao37,co37,eo37⟩:=Kd.R_slice HO628.out;subst eo37) | ((with_reducible refine gate_callee (f:=10) rfl ?_);refine goesL_ (some 68) rfl rfl Try.func10 (by kernel_rfl) rfl #[.agg #[.int .i64 t620,.int .i64 t621,.slice Ao36 t622.length co36],.int .i64 t625,.slice Ao37 t626.length co37] rfl qq139 ?_;(with_reducible refine (impl_SearchOrder.calls k1 t620 t621 _ _ t622 t625 _ _ t626 t630 _ ?side1 ?side2 ?side3 ?side4 A30.out).mono ?_);(case side1 => refine (Kd.Q_reads' (e:=3) (base:=w.heap.size) (ok:=fun k_ => ((some k_ ≠ (.slice Ao37 t626.length co37 : Value).ownBlock ∧ some k_ ≠ (v616 : Value).ownBlock) ∧ some k_ ≠ (.slice Ao9 t609.length co9 : Value).ownBlock)) (n:=t622.length) (c:=co36) ?_).2.2;exact qq15);(case side2 => exact (Kd.Q_reads' HO624.out).2.1);(case side3 => refine (Kd.R_reads' (e:=3) (base:=w.heap.size) (ok:=fun k_ => ((some k_ ≠ (.slice Ao36 t622.length co36 : Value).ownBlock ∧ some k_ ≠ (v616 : Value).ownBlock) ∧ some k_ ≠ (.slice Ao9 t609.length co9 : Value).ownBlock)) (n:=t626.length) (c:=co37) ?_).2.2;exact qq20);(case side4 => exact (Kd.R_reads' HO628.out).2.1);rintro e w38 ⟨v631,rfl,ho0,hb⟩;refine ⟨_,rfl,?_⟩;have HO632:=am (Kd.R_lower (Kd.R_new' (Kd.R_new' (Kd.R_new' (Kd.R_new' ho0 (Kd.R_lt qq22)) (Kd.Q_lt qq13)) (Kd.Q_lt qq15)) (Kd.R_lt qq20)) (below_size qq69));replace HO_6:=am (Kd.R_elder' qq22 (Kd.R_base ho0) hb);replace HO_615002:=am (Kd.Q_elder' qq13 (Kd.R_base ho0) hb);replace HO624:=am (Kd.Q_elder' qq15 (Kd.R_base ho0) hb);replace HO628:=am (Kd.R_elder' qq20 (Kd.R_base ho0) hb);replace BK614:=am (blk_below (g:=gb614) (o:=.cells #[.int .i64 t607,.int .i64 t608,.slice Ao9 t609.length co9] 26 (0,0)) (by (with_reducible repeat (first | refine dN ?_ _ | refine dD ?_ | refine dA ?_ _));refine blk_far ?_ NB614_629.out _;(with_reducible repeat (first | refine dN ?_ _ | refine dD ?_ | refine dA ?_ _));refine blk_far ?_ NB614_629.out _;(with_reducible repeat (first | refine dN ?_ _ | refine dD ?_ | refine dA ?_ _));refine blk_far ?_ NB614_629.out _;(with_reducible repeat (first | refine dN ?_ _ | refine dD ?_ | refine dA ?_ _));exact BK614.out) hb);replace BK629:=am (blk_below (g:=gb629) (o:=.cells #[.int .i64 t620,.int .i64 t621,.slice Ao36 t622.length co36] 26 (0,0)) (by (with_reducible repeat (first | refine dN ?_ _ | refine dD ?_ | refine dA ?_ _));refine blk_put (cs:=#[.int .i64 t620,.int .i64 t621,.slice none 0 0]) ?_ 2 _ rfl;(with_reducible repeat (first | refine dN ?_ _ | refine dD ?_ | refine dA ?_ _));refine blk_put (cs:=#[.int .i64 t620,.int .i64 0,.slice none 0 0]) ?_ 1 _ rfl;(with_reducible repeat (first | refine dN ?_ _ | refine dD ?_ | refine dA ?_ _));refine blk_put (cs:=#[.int .i64 0,.int .i64 0,.slice none 0 0]) ?_ 0 _ rfl;(with_reducible repeat (first | refine dN ?_ _ | refine dD ?_ | refine dA ?_ _));exact BK629.out) hb);replace HB:=am qq375;(try clear hb);(try clear hb2);(try clear hk);(try clear hi);(try clear ho0)))
     go_loopg [13] k1 (fun kq v13 w' => ∃ (x13_2 : Int),v13 = .int .i64 x13_2 ∧ Aside0 (laws_FnSearch.l1 kq l0 t625 t626 t630 x13_2 t620 t621 t622 = some r) ∧ Aside0 (kq ≤ k1) ∧ Aside0 (Kd.R (Kd.int .i64) 3 w' w.heap.size (fun k_ => some k_ ≠ (v631 : Value).ownBlock ∧ some k_ ≠ ((.slice Ao9 t609.length co9) : Value).ownBlock ∧ some k_ ≠ ((.slice Ao36 t622.length co36) : Value).ownBlock) (.slice Ao37 t626.length co37) t626) ∧ Aside0 (Kd.R (Kd.int .i64) 3 w' w.heap.size (fun k_ => some k_ ≠ ((.slice Ao37 t626.length co37) : Value).ownBlock ∧ some k_ ≠ ((.slice Ao9 t609.length co9) : Value).ownBlock ∧ some k_ ≠ ((.slice Ao36 t622.length co36) : Value).ownBlock) v631 t630) ∧ Aside0 (Kd.Q (Kd.int .i64) 3 w' w.heap.size (fun k_ => some k_ ≠ ((.slice Ao37 t626.length co37) : Value).ownBlock ∧ some k_ ≠ (v631 : Value).ownBlock ∧ some k_ ≠ ((.slice Ao36 t622.length co36) : Value).ownBlock) (.slice Ao9 t609.length co9) t609) ∧ Aside0 (Kd.Q (Kd.int .i64) 3 w' w.heap.size (fun k_ => some k_ ≠ ((.slice Ao37 t626.length co37) : Value).ownBlock ∧ some k_ ≠ (v631 : Value).ownBlock ∧ some k_ ≠ ((.slice Ao9 t609.length co9) : Value).ownBlock) (.slice Ao36 t622.length co36) t622) ∧ Aside0 (w'.heap[gb614]? = some (.cells #[.int .i64 t607,.int .i64 t608,(.slice Ao9 t609.length co9)] 26 (0,0))) ∧ Aside0 (w'.heap[gb629]? = some (.cells #[.int .i64 t620,.int .i64 t621,(.slice Ao36 t622.length co36)] 26 (0,0))) ∧ Aside0 (Below w.heap.size w w'))
     case atStart => exact ⟨(0),qq260,H',⟨Nat.le_refl _⟩,⟨by (with_reducible repeat (first | apply kA | apply kN | apply kD));exact Kd.R_mono HO628.out (fun _ hk => ⟨hk.2,⟨hk.1.2,hk.1.1.1⟩⟩)⟩,⟨by (with_reducible repeat (first | apply kA | apply kN | apply kD));exact Kd.R_mono HO632.out (fun _ hk => ⟨hk.2,⟨hk.1.1.2,hk.1.2⟩⟩)⟩,⟨by (with_reducible repeat (first | apply Kd.Q_alloc | apply Kd.Q_drewN | apply Kd.Q_drew));exact Kd.Q_mono HO_615002.out (fun _ hk => ⟨hk.1.2,⟨hk.2,hk.1.1.2⟩⟩)⟩,⟨by (with_reducible repeat (first | apply Kd.Q_alloc | apply Kd.Q_drewN | apply Kd.Q_drew));exact Kd.Q_mono HO624.out (fun _ hk => ⟨hk.1.1.1,⟨hk.2,hk.1.2⟩⟩)⟩,⟨qq180⟩,⟨qq179⟩,⟨qq69⟩⟩
     case round =>
      clear H'
      try clear c1
      try clear c2
      try clear p2
      try clear c3
      try clear c4
      try clear c5
      try clear c6
      try clear p6
      try clear c7
      try clear c8
      try clear c9
      try clear c10
      try clear c11
      try clear c11b0
      try clear c14
      try clear c14b0
      try clear c15
      try clear c15b0
      try clear c15b1
      try clear c15b2
      try clear c22
      try clear c22b0
      try clear c22b1
      try clear c22b2
      try clear c34
      try clear hcz16_0
      try clear hcz16_1
      try clear hcz16_2
      try clear hcz19_0
      try clear hcz19_1
      try clear hcz19_2
      try clear hcz23_0
      try clear hcz23_1
      try clear hcz23_2
      try clear hcz26_0
      try clear hcz26_1
      try clear hcz26_2
      try clear hcz31_0
      try clear hcz31_1
      try clear hcz31_2
      try clear hcz35_0
      try clear hcz35_1
      try clear hcz35_2
      try clear hcz8_0
      try clear hcz8_1
      try clear hcz8_2
      try clear hfz16_0
      try clear hfz16_1
      try clear hfz16_2
      try clear hfz19_0
      try clear hfz19_1
      try clear hfz19_2
      try clear hfz23_0
      try clear hfz23_1
      try clear hfz23_2
      try clear hfz26_0
      try clear hfz26_1
      try clear hfz26_2
      try clear hfz31_0
      try clear hfz31_1
      try clear hfz31_2
      try clear hfz35_0
      try clear hfz35_1
      try clear hfz35_2
      try clear hfz8_0
      try clear hfz8_1
      try clear hfz8_2
      try clear p2
      obtain ⟨x13_2,rfl,HA,HK2,HO_11,HO_12,HO_615002,HO_630002,BK614,BK629,HB⟩:=hrel
      cases gk with
      | zero => exact absurd HA.out (by simp [laws_FnSearch.l1])
      | succ k2 =>
       have H:=HA.out;clear HA;simp only [laws_FnSearch.l1] at H
       by_cases c39 : x13_2 < (t626.length : Int)
       ·rw [if_pos c39] at H;have c39b0 : decide (x13_2 < (t626.length : Int)) = true:=decide_eq_true c39;clear c39
        by_cases c40 : 0 ≤ x13_2
        ·rw [if_pos c40] at H;have c40b0 : decide (0 ≤ x13_2) = true:=decide_eq_true c40;clear c40;replace H:=bS.mp H;obtain ⟨t634,A410,H⟩:=H;replace H : ((impl_Days.f k2 t620 t621 t622 t625 (rd t626 x13_2)).bind fun t636 => (if (t634 != (decide (t636 ≥ 0))) = true then (some false) else (laws_FnSearch.l1 k2 l0 t625 t626 t630 (wrap64 (x13_2 + 1)) t620 t621 t622))) = some r:=H;have A41:=am A410;clear A410;replace H:=bS.mp H;obtain ⟨t636,A420,H⟩:=H;replace H : (if (t634 != (decide (t636 ≥ 0))) = true then (some false) else (laws_FnSearch.l1 k2 l0 t625 t626 t630 (wrap64 (x13_2 + 1)) t620 t621 t622)) = some r:=H;have A42:=am A420;clear A420
         by_cases c43 : (t634 != (decide (t636 ≥ 0))) = true
         ·rw [if_pos c43] at H;have c43b0 : (t634 != (decide (t636 ≥ 0))) = true:=c43;(try (have c43b1 : decide (t634 = (decide (t636 ≥ 0))) = false:=by simpa using c43));(try (have c43b2 : (t634 == (decide (t636 ≥ 0))) = false:=by simpa using c43));(try (have c43b3 : ¬ (t634 = (decide (t636 ≥ 0))):=by simpa using c43));clear c43;obtain rfl:=Option.some.inj H
          try go_wp2
          replace HO_11:=am qq369;replace HO_12:=am qq370;replace HO_615002:=am qq355;replace HO_630002:=am qq356;replace BK614:=am qq376;replace BK629:=am qq377;replace HB:=am qq374;have p633 : 0 ≤ (x13_2 : Int):=odt qq258;have q633 : x13_2 < (t626.length : Int):=odt qq258;obtain ⟨ad633,e633,hx633_0⟩:=Kd.at_int (Kd.R_reads' HO_11.out).2.2 x13_2 p633 q633
          cases e633
          replace p633:=eq_true p633;replace q633:=eq_true q633;have p635 : 0 ≤ (x13_2 : Int):=odt qq258;have q635 : x13_2 < (t626.length : Int):=odt qq258;obtain ⟨ad635,e635,hx635_0⟩:=Kd.at_int (Kd.R_reads' HO_11.out).2.2 x13_2 p635 q635;obtain rfl : ad633 = ad635:=(by injection e635)
          replace p635:=eq_true p635;replace q635:=eq_true q635;obtain ⟨Ao45,co45,eo45⟩:=Kd.R_slice HO_12.out;(first | subst eo45 | (injection eo45 with f1_ f2_ f3_;have f4_:=f1_.symm;have f5_:=f3_.symm;clear f1_ f2_ f3_;subst f4_;subst f5_));refine start_ (n:=15) (S:=fun w' => w'.cell? ⟨gb629,0,none⟩ = some (.int .i64 t620) ∧ w'.cell? ⟨gb629,1,none⟩ = some (.int .i64 t621) ∧ w'.cell? ⟨gb629,2,none⟩ = some (.slice Ao36 t622.length co36) ∧ w'.cell? (ad633.add (x13_2).toNat) = some (.int .i64 (rd t626 x13_2)) ∧ w'.cell? (ad633.add (x13_2).toNat) = some (.int .i64 (rd t626 x13_2))) (ds:=[]) #[Z,Z,Z,Z,Z,Z,Z,Z,Z,Z,Z,Z,Z,Z,Z] (by kernel_rfl) rfl rfl ⟨(blk_cell BK629.out 0).trans rfl,(blk_cell BK629.out 1).trans rfl,(blk_cell BK629.out 2).trans rfl,hx633_0,hx635_0⟩ (fun hHeld => ?_);refine with_tabW laws_FnSearch.tab16 laws_FnSearch.bits16 (fun HT_ HW_ => ?_)
          generalize wr.drew = w44 at HO_11 HO_12 HO_615002 HO_630002 BK614 BK629 HB hx633_0 hx635_0 hHeld ⊢
          refine pV (i:=0) (N:=some 75) #[Y,Z,Z,Z,Z,Z,Z,Z,Z,Z,Z,Z,Z,Z,Z] rfl rfl qT ?_
          refine pV (i:=1) (N:=some 76) #[Y,Y,Z,Z,Z,Z,Z,Z,Z,Z,Z,Z,Z,Z,Z] rfl rfl qT ?_
          refine pV (i:=2) (N:=some 77) #[Y,Y,Y,Z,Z,Z,Z,Z,Z,Z,Z,Z,Z,Z,Z] rfl rfl qT ?_
          refine pV (i:=3) (N:=some 78) #[Y,Y,Y,Y,Z,Z,Z,Z,Z,Z,Z,Z,Z,Z,Z] rfl rfl qT ?_
          refine pV (i:=7) (N:=some 82) #[Y,Y,Y,Y,Z,Z,Z,Y,Z,Z,Z,Z,Z,Z,Z] rfl rfl qT ?_
          refine pV (i:=8) (N:=some 83) #[Y,Y,Y,Y,Z,Z,Z,Y,Y,Z,Z,Z,Z,Z,Z] rfl rfl qT ?_
          refine pV (i:=9) (N:=some 84) #[Y,Y,Y,Y,Z,Z,Z,Y,Y,Y,Z,Z,Z,Z,Z] rfl rfl qT ?_
          refine pV (i:=10) (N:=some 85) #[Y,Y,Y,Y,Z,Z,Z,Y,Y,Y,Y,Z,Z,Z,Z] rfl rfl qT ?_
          refine tV5 (i:=4) (N:=some 79) #[Y,Y,Y,Y,Y,Z,Z,Y,Y,Y,Y,Z,Z,Z,Z] rfl rfl (take_ofW HT_.out HW_.out (by kernel_rfl)) hHeld ?_
          refine tV5 (i:=6) (N:=some 81) #[Y,Y,Y,Y,Y,Z,Y,Y,Y,Y,Y,Z,Z,Z,Z] rfl rfl (take_ofW HT_.out HW_.out (by kernel_rfl)) hHeld ?_
          refine tV5 (i:=11) (N:=some 86) #[Y,Y,Y,Y,Y,Z,Y,Y,Y,Y,Y,Y,Z,Z,Z] rfl rfl (take_ofW HT_.out HW_.out (by kernel_rfl)) hHeld ?_
          refine one_ (i:=5) (N:=some 80) #[Y,Y,Y,Y,Y,Y,Y,Y,Y,Y,Y,Y,Z,Z,Z] rfl rfl (one_of HT_.out (by kernel_rfl)) (by decide) (fun K hK => ?_);refine goes_ Try.func8 (by kernel_rfl) rfl #[.slice Ao45 t630.length co45,.int .i64 (rd t626 x13_2)] (by rfl) rfl rfl qq139 ?_;with_reducible refine (laws_contains.calls k2 _ _ t630 (rd t626 x13_2) t634 _ ?side1 ?side2 A41.out).mono ?_
          (case side1 => exact qq89);(case side2 => exact (Kd.R_reads' HO_12.out).2.1)
          rintro e w' ⟨rfl,⟨nd,rfl⟩⟩
          refine ⟨_,rfl,?_⟩;refine hK.out _ _ ⟨(blk_cell BK629.out 0).trans rfl,(blk_cell BK629.out 1).trans rfl,(blk_cell BK629.out 2).trans rfl,hHeld.2.2.2.1,hHeld.2.2.2.2⟩ (fun hHeld => ?_);clear hK K;refine norm_ (a':=?_) ?_ ?_;rotate_left
          ·show Act.put _ (some 80) _ = _
           simp only [Act.put,sA,s0,s1,i64_w,i32_w];rfl
          refine one_ (i:=12) (N:=some 87) #[Y,Y,Y,Y,Y,Y,Y,Y,Y,Y,Y,Y,Y,Z,Z] rfl rfl (one_of HT_.out (by kernel_rfl)) (by decide) (fun K hK => ?_);refine goes_ Try.func7 (by kernel_rfl) rfl #[.agg #[.int .i64 t620,.int .i64 t621,.slice Ao36 t622.length co36],.int .i64 t625,.int .i64 (rd t626 x13_2)] (by rfl) rfl rfl qq139 ?_;with_reducible refine (impl_Days.calls k2 t620 t621 _ _ t622 t625 (rd t626 x13_2) t636 _ ?side1 ?side2 A42.out).mono ?_
          (case side1 => exact qq81);(case side2 => exact qq263)
          rintro e w46 ⟨rfl,hb⟩
          have HS3_:=(hb.cell (bl _ _ (hHeld.2.2.2.1))).trans (hHeld.2.2.2.1);have HS4_:=(hb.cell (bl _ _ (hHeld.2.2.2.2))).trans (hHeld.2.2.2.2);refine ⟨_,rfl,?_⟩;replace HO_11:=am qq371;replace HO_12:=am qq372;replace HO_615002:=am qq368;replace HO_630002:=am qq373;replace BK614:=am qq320;replace BK629:=am qq317;replace HB:=am qq375;(try clear hb);(try clear hb2);(try clear hk);(try clear hi);refine hK.out _ _ ⟨(blk_cell BK629.out 0).trans rfl,(blk_cell BK629.out 1).trans rfl,(blk_cell BK629.out 2).trans rfl,HS3_,HS4_⟩ (fun hHeld => ?_);clear hK K;refine norm_ (a':=?_) ?_ ?_;rotate_left
          ·show Act.put _ (some 87) _ = _
           simp only [Act.put,sA,s0,s1,i64_w,i32_w];rfl
          refine pV (i:=13) (N:=some 88) #[Y,Y,Y,Y,Y,Y,Y,Y,Y,Y,Y,Y,Y,Y,Z] rfl rfl qT ?_
          refine pV (i:=14) (N:=some 89) #[Y,Y,Y,Y,Y,Y,Y,Y,Y,Y,Y,Y,Y,Y,Y] rfl rfl qT ?_
          refine done_ (done_of HT_.out (by kernel_rfl)) ?_
          try go_wp2
          go_ret
          exact ⟨qq216,qq69⟩
         ·rw [if_neg c43] at H;have c43b0 : (t634 != (decide (t636 ≥ 0))) = false:=by simpa using c43
          (try (have c43b1 : decide (t634 = (decide (t636 ≥ 0))) = true:=by simpa using c43));(try (have c43b2 : (t634 == (decide (t636 ≥ 0))) = true:=by simpa using c43));clear c43;have H':=am H;clear H
          try go_wp2
          replace HO_11:=am qq369;replace HO_12:=am qq370;replace HO_615002:=am qq355;replace HO_630002:=am qq356;replace BK614:=am qq376;replace BK629:=am qq377;replace HB:=am qq374;have p633 : 0 ≤ (x13_2 : Int):=odt qq258;have q633 : x13_2 < (t626.length : Int):=odt qq258;obtain ⟨ad633,e633,hx633_0⟩:=Kd.at_int (Kd.R_reads' HO_11.out).2.2 x13_2 p633 q633
          cases e633
          replace p633:=eq_true p633;replace q633:=eq_true q633;have p635 : 0 ≤ (x13_2 : Int):=odt qq258;have q635 : x13_2 < (t626.length : Int):=odt qq258;obtain ⟨ad635,e635,hx635_0⟩:=Kd.at_int (Kd.R_reads' HO_11.out).2.2 x13_2 p635 q635;obtain rfl : ad633 = ad635:=(by injection e635)
          replace p635:=eq_true p635;replace q635:=eq_true q635;obtain ⟨Ao48,co48,eo48⟩:=Kd.R_slice HO_12.out;(first | subst eo48 | (injection eo48 with f1_ f2_ f3_;have f4_:=f1_.symm;have f5_:=f3_.symm;clear f1_ f2_ f3_;subst f4_;subst f5_));refine start_ (n:=15) (S:=fun w' => w'.cell? ⟨gb629,0,none⟩ = some (.int .i64 t620) ∧ w'.cell? ⟨gb629,1,none⟩ = some (.int .i64 t621) ∧ w'.cell? ⟨gb629,2,none⟩ = some (.slice Ao36 t622.length co36) ∧ w'.cell? (ad633.add (x13_2).toNat) = some (.int .i64 (rd t626 x13_2)) ∧ w'.cell? (ad633.add (x13_2).toNat) = some (.int .i64 (rd t626 x13_2))) (ds:=[]) #[Z,Z,Z,Z,Z,Z,Z,Z,Z,Z,Z,Z,Z,Z,Z] (by kernel_rfl) rfl rfl ⟨(blk_cell BK629.out 0).trans rfl,(blk_cell BK629.out 1).trans rfl,(blk_cell BK629.out 2).trans rfl,hx633_0,hx635_0⟩ (fun hHeld => ?_);refine with_tabW laws_FnSearch.tab16 laws_FnSearch.bits16 (fun HT_ HW_ => ?_)
          generalize wr.drew = w47 at HO_11 HO_12 HO_615002 HO_630002 BK614 BK629 HB hx633_0 hx635_0 hHeld ⊢
          refine pV (i:=0) (N:=some 75) #[Y,Z,Z,Z,Z,Z,Z,Z,Z,Z,Z,Z,Z,Z,Z] rfl rfl qT ?_
          refine pV (i:=1) (N:=some 76) #[Y,Y,Z,Z,Z,Z,Z,Z,Z,Z,Z,Z,Z,Z,Z] rfl rfl qT ?_
          refine pV (i:=2) (N:=some 77) #[Y,Y,Y,Z,Z,Z,Z,Z,Z,Z,Z,Z,Z,Z,Z] rfl rfl qT ?_
          refine pV (i:=3) (N:=some 78) #[Y,Y,Y,Y,Z,Z,Z,Z,Z,Z,Z,Z,Z,Z,Z] rfl rfl qT ?_
          refine pV (i:=7) (N:=some 82) #[Y,Y,Y,Y,Z,Z,Z,Y,Z,Z,Z,Z,Z,Z,Z] rfl rfl qT ?_
          refine pV (i:=8) (N:=some 83) #[Y,Y,Y,Y,Z,Z,Z,Y,Y,Z,Z,Z,Z,Z,Z] rfl rfl qT ?_
          refine pV (i:=9) (N:=some 84) #[Y,Y,Y,Y,Z,Z,Z,Y,Y,Y,Z,Z,Z,Z,Z] rfl rfl qT ?_
          refine pV (i:=10) (N:=some 85) #[Y,Y,Y,Y,Z,Z,Z,Y,Y,Y,Y,Z,Z,Z,Z] rfl rfl qT ?_
          refine tV5 (i:=4) (N:=some 79) #[Y,Y,Y,Y,Y,Z,Z,Y,Y,Y,Y,Z,Z,Z,Z] rfl rfl (take_ofW HT_.out HW_.out (by kernel_rfl)) hHeld ?_
          refine tV5 (i:=6) (N:=some 81) #[Y,Y,Y,Y,Y,Z,Y,Y,Y,Y,Y,Z,Z,Z,Z] rfl rfl (take_ofW HT_.out HW_.out (by kernel_rfl)) hHeld ?_
          refine tV5 (i:=11) (N:=some 86) #[Y,Y,Y,Y,Y,Z,Y,Y,Y,Y,Y,Y,Z,Z,Z] rfl rfl (take_ofW HT_.out HW_.out (by kernel_rfl)) hHeld ?_
          refine one_ (i:=5) (N:=some 80) #[Y,Y,Y,Y,Y,Y,Y,Y,Y,Y,Y,Y,Z,Z,Z] rfl rfl (one_of HT_.out (by kernel_rfl)) (by decide) (fun K hK => ?_);refine goes_ Try.func8 (by kernel_rfl) rfl #[.slice Ao48 t630.length co48,.int .i64 (rd t626 x13_2)] (by rfl) rfl rfl qq139 ?_;with_reducible refine (laws_contains.calls k2 _ _ t630 (rd t626 x13_2) t634 _ ?side1 ?side2 A41.out).mono ?_
          (case side1 => exact qq89);(case side2 => exact (Kd.R_reads' HO_12.out).2.1)
          rintro e w' ⟨rfl,⟨nd,rfl⟩⟩
          refine ⟨_,rfl,?_⟩;refine hK.out _ _ ⟨(blk_cell BK629.out 0).trans rfl,(blk_cell BK629.out 1).trans rfl,(blk_cell BK629.out 2).trans rfl,hHeld.2.2.2.1,hHeld.2.2.2.2⟩ (fun hHeld => ?_);clear hK K;refine norm_ (a':=?_) ?_ ?_;rotate_left
          ·show Act.put _ (some 80) _ = _
           simp only [Act.put,sA,s0,s1,i64_w,i32_w];rfl
          refine one_ (i:=12) (N:=some 87) #[Y,Y,Y,Y,Y,Y,Y,Y,Y,Y,Y,Y,Y,Z,Z] rfl rfl (one_of HT_.out (by kernel_rfl)) (by decide) (fun K hK => ?_);refine goes_ Try.func7 (by kernel_rfl) rfl #[.agg #[.int .i64 t620,.int .i64 t621,.slice Ao36 t622.length co36],.int .i64 t625,.int .i64 (rd t626 x13_2)] (by rfl) rfl rfl qq139 ?_;with_reducible refine (impl_Days.calls k2 t620 t621 _ _ t622 t625 (rd t626 x13_2) t636 _ ?side1 ?side2 A42.out).mono ?_
          (case side1 => exact qq81);(case side2 => exact qq263)
          rintro e w49 ⟨rfl,hb⟩
          have HS3_:=(hb.cell (bl _ _ (hHeld.2.2.2.1))).trans (hHeld.2.2.2.1);have HS4_:=(hb.cell (bl _ _ (hHeld.2.2.2.2))).trans (hHeld.2.2.2.2);refine ⟨_,rfl,?_⟩;replace HO_11:=am qq371;replace HO_12:=am qq372;replace HO_615002:=am qq368;replace HO_630002:=am qq373;replace BK614:=am qq320;replace BK629:=am qq317;replace HB:=am qq375;(try clear hb);(try clear hb2);(try clear hk);(try clear hi);refine hK.out _ _ ⟨(blk_cell BK629.out 0).trans rfl,(blk_cell BK629.out 1).trans rfl,(blk_cell BK629.out 2).trans rfl,HS3_,HS4_⟩ (fun hHeld => ?_);clear hK K;refine norm_ (a':=?_) ?_ ?_;rotate_left
          ·show Act.put _ (some 87) _ = _
           simp only [Act.put,sA,s0,s1,i64_w,i32_w];rfl
          refine pV (i:=13) (N:=some 88) #[Y,Y,Y,Y,Y,Y,Y,Y,Y,Y,Y,Y,Y,Y,Z] rfl rfl qT ?_
          refine pV (i:=14) (N:=some 89) #[Y,Y,Y,Y,Y,Y,Y,Y,Y,Y,Y,Y,Y,Y,Y] rfl rfl qT ?_
          refine done_ (done_of HT_.out (by kernel_rfl)) ?_
          try go_wp2
          go_roundg k2
          case measure => have:=HK1.out;have:=HK2.out;omega
          case rel => exact ⟨(wrap64 (x13_2 + 1)),qq260,H',⟨qq266⟩,⟨qq225⟩,⟨qq224⟩,⟨qq164⟩,⟨qq163⟩,⟨qq180⟩,⟨qq179⟩,⟨qq69⟩⟩
        ·rw [if_neg c40] at H;exact absurd H (by simp)
       ·rw [if_neg c39] at H;have c39b0 : decide (x13_2 < (t626.length : Int)) = false:=decide_eq_false c39;clear c39;have H':=am H;clear H;go_wp2
        go_loopg [14] k2 (fun kq v14 w' => ∃ (x14_3 : Int),v14 = .int .i64 x14_3 ∧ Aside0 (laws_FnSearch.l2 kq l0 t625 t626 t630 x14_3 t620 t621 t622 = some r) ∧ Aside0 (kq ≤ k2) ∧ Aside0 (Kd.R (Kd.int .i64) 3 w' w.heap.size (fun k_ => some k_ ≠ (v631 : Value).ownBlock ∧ some k_ ≠ ((.slice Ao9 t609.length co9) : Value).ownBlock ∧ some k_ ≠ ((.slice Ao36 t622.length co36) : Value).ownBlock) (.slice Ao37 t626.length co37) t626) ∧ Aside0 (Kd.R (Kd.int .i64) 3 w' w.heap.size (fun k_ => some k_ ≠ ((.slice Ao37 t626.length co37) : Value).ownBlock ∧ some k_ ≠ ((.slice Ao9 t609.length co9) : Value).ownBlock ∧ some k_ ≠ ((.slice Ao36 t622.length co36) : Value).ownBlock) v631 t630) ∧ Aside0 (Kd.Q (Kd.int .i64) 3 w' w.heap.size (fun k_ => some k_ ≠ ((.slice Ao37 t626.length co37) : Value).ownBlock ∧ some k_ ≠ (v631 : Value).ownBlock ∧ some k_ ≠ ((.slice Ao36 t622.length co36) : Value).ownBlock) (.slice Ao9 t609.length co9) t609) ∧ Aside0 (Kd.Q (Kd.int .i64) 3 w' w.heap.size (fun k_ => some k_ ≠ ((.slice Ao37 t626.length co37) : Value).ownBlock ∧ some k_ ≠ (v631 : Value).ownBlock ∧ some k_ ≠ ((.slice Ao9 t609.length co9) : Value).ownBlock) (.slice Ao36 t622.length co36) t622) ∧ Aside0 (w'.heap[gb614]? = some (.cells #[.int .i64 t607,.int .i64 t608,(.slice Ao9 t609.length co9)] 26 (0,0))) ∧ Aside0 (w'.heap[gb629]? = some (.cells #[.int .i64 t620,.int .i64 t621,(.slice Ao36 t622.length co36)] 26 (0,0))) ∧ Aside0 (Below w.heap.size w w'))
        case atStart => exact ⟨(0),qq260,H',⟨Nat.le_refl _⟩,⟨qq225⟩,⟨qq224⟩,⟨qq164⟩,⟨qq163⟩,⟨qq180⟩,⟨qq179⟩,⟨qq69⟩⟩
        case round =>
         clear H'
         try clear c1
         try clear c2
         try clear p2
         try clear c3
         try clear c4
         try clear c5
         try clear c6
         try clear p6
         try clear q6
         try clear hx6
         try clear c7
         try clear c8
         try clear c9
         try clear c10
         try clear c11
         try clear c11b0
         try clear c14
         try clear c14b0
         try clear c15
         try clear c15b0
         try clear c15b1
         try clear c15b2
         try clear c22
         try clear c22b0
         try clear c22b1
         try clear c22b2
         try clear c34
         try clear c39
         try clear c39b0
         try clear c40
         try clear c40b0
         try clear c43
         try clear c43b0
         try clear c43b1
         try clear c43b2
         try clear hcz16_0
         try clear hcz16_1
         try clear hcz16_2
         try clear hcz19_0
         try clear hcz19_1
         try clear hcz19_2
         try clear hcz23_0
         try clear hcz23_1
         try clear hcz23_2
         try clear hcz26_0
         try clear hcz26_1
         try clear hcz26_2
         try clear hcz31_0
         try clear hcz31_1
         try clear hcz31_2
         try clear hcz35_0
         try clear hcz35_1
         try clear hcz35_2
         try clear hcz8_0
         try clear hcz8_1
         try clear hcz8_2
         try clear hfz16_0
         try clear hfz16_1
         try clear hfz16_2
         try clear hfz19_0
         try clear hfz19_1
         try clear hfz19_2
         try clear hfz23_0
         try clear hfz23_1
         try clear hfz23_2
         try clear hfz26_0
         try clear hfz26_1
         try clear hfz26_2
         try clear hfz31_0
         try clear hfz31_1
         try clear hfz31_2
         try clear hfz35_0
         try clear hfz35_1
         try clear hfz35_2
         try clear hfz8_0
         try clear hfz8_1
         try clear hfz8_2
         try clear hx633_0
         try clear hx635_0
         try clear p2
         try clear p6
         try clear p633
         try clear p635
         try clear q633
         try clear q635
         obtain ⟨x14_3,rfl,HA,HK3,HO_11,HO_12,HO_615002,HO_630002,BK614,BK629,HB⟩:=hrel
         cases gk with
         | zero => exact absurd HA.out (by simp [laws_FnSearch.l2])
         | succ k3 =>
          have H:=HA.out;clear HA;simp only [laws_FnSearch.l2] at H
          by_cases c50 : x14_3 < (t630.length : Int)
          ·rw [if_pos c50] at H;have c50b0 : decide (x14_3 < (t630.length : Int)) = true:=decide_eq_true c50;clear c50
           by_cases c51 : 0 ≤ x14_3
           ·rw [if_pos c51] at H;have c51b0 : decide (0 ≤ x14_3) = true:=decide_eq_true c51;clear c51;replace H:=bS.mp H;obtain ⟨t638,A520,H⟩:=H;replace H : (if t638 = true then (if x14_3 > 0 then (if 0 ≤ (wrap64 (x14_3 - 1)) then (if (wrap64 (x14_3 - 1)) < (t630.length : Int) then ((impl_Days.f k3 t620 t621 t622 t625 (rd t630 (wrap64 (x14_3 - 1)))).bind fun t640 => ((impl_Days.f k3 t620 t621 t622 t625 (rd t630 x14_3)).bind fun t642 => (if t640 > t642 then (some false) else (laws_FnSearch.l2 k3 l0 t625 t626 t630 (wrap64 (x14_3 + 1)) t620 t621 t622)))) else (none)) else (none)) else (laws_FnSearch.l2 k3 l0 t625 t626 t630 (wrap64 (x14_3 + 1)) t620 t621 t622)) else (some false)) = some r:=H;have A52:=am A520;clear A520
            by_cases c53 : t638 = true
            ·subst c53;have H1 : (if x14_3 > 0 then (if 0 ≤ (wrap64 (x14_3 - 1)) then (if (wrap64 (x14_3 - 1)) < (t630.length : Int) then ((impl_Days.f k3 t620 t621 t622 t625 (rd t630 (wrap64 (x14_3 - 1)))).bind fun t640 => ((impl_Days.f k3 t620 t621 t622 t625 (rd t630 x14_3)).bind fun t642 => (if t640 > t642 then (some false) else (laws_FnSearch.l2 k3 l0 t625 t626 t630 (wrap64 (x14_3 + 1)) t620 t621 t622)))) else (none)) else (none)) else (laws_FnSearch.l2 k3 l0 t625 t626 t630 (wrap64 (x14_3 + 1)) t620 t621 t622)) = some r:=by rw [if_pos rfl] at H;exact H
             clear H;have H:=H1;clear H1
             by_cases c54 : x14_3 > 0
             ·rw [if_pos c54] at H;have c54b0 : decide (0 < x14_3) = true:=decide_eq_true c54;clear c54;obtain ⟨ji55,hji55⟩ : ∃ j_ : Int,(wrap64 (x14_3 - 1)) = j_:=⟨_,rfl⟩
              replace H : (if 0 ≤ (ji55) then (if (ji55) < (t630.length : Int) then ((impl_Days.f k3 t620 t621 t622 t625 (rd t630 (ji55))).bind fun t640 => ((impl_Days.f k3 t620 t621 t622 t625 (rd t630 x14_3)).bind fun t642 => (if t640 > t642 then (some false) else (laws_FnSearch.l2 k3 l0 t625 t626 t630 (wrap64 (x14_3 + 1)) t620 t621 t622)))) else (none)) else (none)) = some r:=by first | (rw [hji55] at H;exact H) | (simp only [hji55] at H ⊢;exact H)
              (try rw [hji55] at A52);have hji55w : (IntKind.i64.wrap (x14_3 - 1)) = ji55:=(i64_w _).trans hji55
              by_cases c56 : 0 ≤ (ji55)
              ·rw [if_pos c56] at H;have c56b0 : decide (0 ≤ (ji55)) = true:=decide_eq_true c56;clear c56
               by_cases c57 : (ji55) < (t630.length : Int)
               ·rw [if_pos c57] at H;have c57b0 : decide ((ji55) < (t630.length : Int)) = true:=decide_eq_true c57;clear c57;replace H:=bS.mp H;obtain ⟨t640,A580,H⟩:=H;replace H : ((impl_Days.f k3 t620 t621 t622 t625 (rd t630 x14_3)).bind fun t642 => (if t640 > t642 then (some false) else (laws_FnSearch.l2 k3 l0 t625 t626 t630 (wrap64 (x14_3 + 1)) t620 t621 t622))) = some r:=H;have A58:=am A580;clear A580;replace H:=bS.mp H;obtain ⟨t642,A590,H⟩:=H;replace H : (if t640 > t642 then (some false) else (laws_FnSearch.l2 k3 l0 t625 t626 t630 (wrap64 (x14_3 + 1)) t620 t621 t622)) = some r:=H;have A59:=am A590;clear A590
                by_cases c60 : t640 > t642
                ·rw [if_pos c60] at H;have c60b0 : decide (t642 < t640) = true:=decide_eq_true c60;clear c60;obtain rfl:=Option.some.inj H;obtain ⟨Ao61,co61,eo61⟩:=Kd.R_slice HO_12.out;subst eo61
                 try go_wp2
                 replace HO_11:=am qq369;replace HO_12:=am qq370;replace HO_615002:=am qq355;replace HO_630002:=am qq356;replace BK614:=am qq376;replace BK629:=am qq377;replace HB:=am qq374;have p637 : 0 ≤ (x14_3 : Int):=odt qq258;have q637 : x14_3 < (t630.length : Int):=odt qq258;obtain ⟨ad637,e637,hx637_0⟩:=Kd.at_int (Kd.R_reads' HO_12.out).2.2 x14_3 p637 q637
                 cases e637
                 replace p637:=eq_true p637;replace q637:=eq_true q637;have p639 : 0 ≤ ((ji55) : Int):=odt qq258;have q639 : (ji55) < (t630.length : Int):=odt qq258;obtain ⟨ad639,e639,hx639_0⟩:=Kd.at_int (Kd.R_reads' HO_12.out).2.2 (ji55) p639 q639;obtain rfl : ad637 = ad639:=(by injection e639)
                 replace p639:=eq_true p639;replace q639:=eq_true q639;have p641 : 0 ≤ (x14_3 : Int):=odt qq258;have q641 : x14_3 < (t630.length : Int):=odt qq258;obtain ⟨ad641,e641,hx641_0⟩:=Kd.at_int (Kd.R_reads' HO_12.out).2.2 x14_3 p641 q641;obtain rfl : ad637 = ad641:=(by injection e641)
                 replace p641:=eq_true p641;replace q641:=eq_true q641;refine start_ (n:=29) (S:=fun w' => w'.cell? ⟨gb629,0,none⟩ = some (.int .i64 t620) ∧ w'.cell? ⟨gb629,1,none⟩ = some (.int .i64 t621) ∧ w'.cell? ⟨gb629,2,none⟩ = some (.slice Ao36 t622.length co36) ∧ w'.cell? (ad637.add (x14_3).toNat) = some (.int .i64 (rd t630 x14_3)) ∧ w'.cell? (ad637.add ((ji55)).toNat) = some (.int .i64 (rd t630 (ji55))) ∧ w'.cell? (ad637.add (x14_3).toNat) = some (.int .i64 (rd t630 x14_3))) (ds:=[]) m0_16 (by kernel_rfl) rfl rfl ⟨(blk_cell BK629.out 0).trans rfl,(blk_cell BK629.out 1).trans rfl,(blk_cell BK629.out 2).trans rfl,hx637_0,hx639_0,hx641_0⟩ (fun hHeld => ?_);refine with_tabW laws_FnSearch.tab21 laws_FnSearch.bits21 (fun HT_ HW_ => ?_)
                 generalize wr.drew = w62 at HO_11 HO_12 HO_615002 HO_630002 BK614 BK629 HB hx637_0 hx639_0 hx641_0 hHeld ⊢
                 refine pV (i:=0) (N:=some 96) m1_16 rfl rfl qT ?_
                 refine pV (i:=1) (N:=some 97) m2_16 rfl rfl qT ?_
                 refine pV (i:=2) (N:=some 98) m3_16 rfl rfl qT ?_
                 refine pV (i:=3) (N:=some 99) m4_16 rfl rfl qT ?_
                 refine tV6 (i:=4) (N:=some 100) m5_16 rfl rfl (take_ofW HT_.out HW_.out (by kernel_rfl)) hHeld ?_
                 refine one_ (i:=5) (N:=some 101) m6_16 rfl rfl (one_of HT_.out (by kernel_rfl)) (by decide) (fun K hK => ?_);refine goes_ Try.func8 (by kernel_rfl) rfl #[.slice Ao37 t626.length co37,.int .i64 (rd t630 x14_3)] (by rfl) rfl rfl qq139 ?_;with_reducible refine (laws_contains.calls k3 _ _ t626 (rd t630 x14_3) true _ ?side1 ?side2 A52.out).mono ?_
                 (case side1 => exact qq90);(case side2 => exact qq267)
                 rintro e w' ⟨rfl,⟨nd,rfl⟩⟩
                 refine ⟨_,rfl,?_⟩;refine hK.out _ _ ⟨(blk_cell BK629.out 0).trans rfl,(blk_cell BK629.out 1).trans rfl,(blk_cell BK629.out 2).trans rfl,hHeld.2.2.2.1,hHeld.2.2.2.2.1,hHeld.2.2.2.2.2⟩ (fun hHeld => ?_);clear hK K;refine norm_ (a':=?_) ?_ ?_;rotate_left
                 ·show Act.put _ (some 101) _ = _
                  simp only [Act.put,sA,s0,s1,i64_w,i32_w];rfl
                 refine pV (i:=6) (N:=some 102) m7_16 rfl rfl qT ?_
                 refine pV (i:=7) (N:=some 103) m8_16 rfl rfl qT ?_
                 refine pV (i:=8) (N:=some 104) m9_16 rfl rfl qT ?_
                 refine pV (i:=9) (N:=some 105) m10_16 rfl rfl qT ?_
                 refine pV (i:=10) (N:=some 106) m11_16 rfl rfl qT ?_
                 refine pV (i:=12) (N:=some 108) m12_16 rfl rfl qT ?_
                 refine pV (i:=13) (N:=some 109) m13_16 rfl rfl qT ?_
                 refine pV (i:=14) (N:=some 110) m14_16 rfl rfl qT ?_
                 refine pV (i:=15) (N:=some 111) m15_16 rfl rfl qT ?_
                 refine pV (i:=16) (N:=some 112) m16_16 rfl rfl qT ?_
                 refine pV (i:=20) (N:=some 116) m17_16 rfl rfl qT ?_
                 refine pV (i:=21) (N:=some 117) m18_16 rfl rfl qT ?_
                 refine pV (i:=22) (N:=some 118) m19_16 rfl rfl qT ?_
                 refine pV (i:=23) (N:=some 119) m20_16 rfl rfl qT ?_
                 refine tV6 (i:=11) (N:=some 107) m21_16 rfl rfl (take_ofW HT_.out HW_.out (by kernel_rfl)) hHeld ?_
                 refine tV6 (i:=17) (N:=some 113) m22_16 rfl rfl (take_ofW HT_.out HW_.out (by kernel_rfl)) hHeld ?_
                 refine tV6 (i:=19) (N:=some 115) m23_16 rfl rfl (take_ofW HT_.out HW_.out (by kernel_rfl)) hHeld ?_
                 refine tV6 (i:=24) (N:=some 120) m24_16 rfl rfl (take_ofW HT_.out HW_.out (by kernel_rfl)) hHeld ?_
                 refine one_ (i:=18) (N:=some 114) m25_16 rfl rfl (one_of HT_.out (by kernel_rfl)) (by decide) (fun K hK => ?_);refine goes_ Try.func7 (by kernel_rfl) rfl #[.agg #[.int .i64 t620,.int .i64 t621,.slice Ao36 t622.length co36],.int .i64 t625,.int .i64 (rd t630 (ji55))] (by rfl) rfl rfl qq74 ?_;with_reducible refine (impl_Days.calls k3 t620 t621 _ _ t622 t625 (rd t630 (ji55)) t640 _ ?side1 ?side2 A58.out).mono ?_
                 (case side1 => exact qq81);(case side2 => exact qq263)
                 rintro e w63 ⟨rfl,hb⟩
                 have HS3_:=(hb.cell (bl _ _ (hHeld.2.2.2.1))).trans (hHeld.2.2.2.1);have HS4_:=(hb.cell (bl _ _ (hHeld.2.2.2.2.1))).trans (hHeld.2.2.2.2.1);have HS5_:=(hb.cell (bl _ _ (hHeld.2.2.2.2.2))).trans (hHeld.2.2.2.2.2);refine ⟨_,rfl,?_⟩;replace HO_11:=am qq371;replace HO_12:=am qq372;replace HO_615002:=am qq368;replace HO_630002:=am qq373;replace BK614:=am qq320;replace BK629:=am qq317;replace HB:=am qq375;(try clear hb);(try clear hb2);(try clear hk);(try clear hi);refine hK.out _ _ ⟨(blk_cell BK629.out 0).trans rfl,(blk_cell BK629.out 1).trans rfl,(blk_cell BK629.out 2).trans rfl,HS3_,HS4_,HS5_⟩ (fun hHeld => ?_);clear hK K;refine norm_ (a':=?_) ?_ ?_;rotate_left
                 ·show Act.put _ (some 114) _ = _
                  simp only [Act.put,sA,s0,s1,i64_w,i32_w];rfl
                 refine one_ (i:=25) (N:=some 121) m26_16 rfl rfl (one_of HT_.out (by kernel_rfl)) (by decide) (fun K hK => ?_);refine goes_ Try.func7 (by kernel_rfl) rfl #[.agg #[.int .i64 t620,.int .i64 t621,.slice Ao36 t622.length co36],.int .i64 t625,.int .i64 (rd t630 x14_3)] (by rfl) rfl rfl qq139 ?_;with_reducible refine (impl_Days.calls k3 t620 t621 _ _ t622 t625 (rd t630 x14_3) t642 _ ?side1 ?side2 A59.out).mono ?_
                 (case side1 => exact qq81);(case side2 => exact qq263)
                 rintro e w64 ⟨rfl,hb⟩
                 have HS3_:=(hb.cell (bl _ _ (hHeld.2.2.2.1))).trans (hHeld.2.2.2.1);have HS4_:=(hb.cell (bl _ _ (hHeld.2.2.2.2.1))).trans (hHeld.2.2.2.2.1);have HS5_:=(hb.cell (bl _ _ (hHeld.2.2.2.2.2))).trans (hHeld.2.2.2.2.2);refine ⟨_,rfl,?_⟩;replace HO_11:=am qq371;replace HO_12:=am qq372;replace HO_615002:=am qq368;replace HO_630002:=am qq373;replace BK614:=am qq320;replace BK629:=am qq317;replace HB:=am qq375;(try clear hb);(try clear hb2);(try clear hk);(try clear hi);refine hK.out _ _ ⟨(blk_cell BK629.out 0).trans rfl,(blk_cell BK629.out 1).trans rfl,(blk_cell BK629.out 2).trans rfl,HS3_,HS4_,HS5_⟩ (fun hHeld => ?_);clear hK K;refine norm_ (a':=?_) ?_ ?_;rotate_left
                 ·show Act.put _ (some 121) _ = _
                  simp only [Act.put,sA,s0,s1,i64_w,i32_w];rfl
                 refine pV (i:=26) (N:=some 122) m27_16 rfl rfl qT ?_
                 refine pV (i:=27) (N:=some 123) m28_16 rfl rfl qT ?_
                 refine pV (i:=28) (N:=some 124) m29_16 rfl rfl qT ?_
                 refine done_ (done_of HT_.out (by kernel_rfl)) ?_
                 try go_wp2
                 go_ret
                 exact ⟨by first | rfl | (simp [errW_none,errW_some] <;> rfl) | (simp only [← hji55];first | rfl | (simp [errW_none,errW_some] <;> rfl)) | (simp [*,errW_none,errW_some] <;> rfl),qq69⟩
                ·rw [if_neg c60] at H;have c60b0 : decide (t642 < t640) = false:=decide_eq_false c60;clear c60;have H':=am H;clear H;obtain ⟨Ao65,co65,eo65⟩:=Kd.R_slice HO_12.out;subst eo65
                 try go_wp2
                 replace HO_11:=am qq369;replace HO_12:=am qq370;replace HO_615002:=am qq355;replace HO_630002:=am qq356;replace BK614:=am qq376;replace BK629:=am qq377;replace HB:=am qq374;have p637 : 0 ≤ (x14_3 : Int):=odt qq258;have q637 : x14_3 < (t630.length : Int):=odt qq258;obtain ⟨ad637,e637,hx637_0⟩:=Kd.at_int (Kd.R_reads' HO_12.out).2.2 x14_3 p637 q637
                 cases e637
                 replace p637:=eq_true p637;replace q637:=eq_true q637;have p639 : 0 ≤ ((ji55) : Int):=odt qq258;have q639 : (ji55) < (t630.length : Int):=odt qq258;obtain ⟨ad639,e639,hx639_0⟩:=Kd.at_int (Kd.R_reads' HO_12.out).2.2 (ji55) p639 q639;obtain rfl : ad637 = ad639:=(by injection e639)
                 replace p639:=eq_true p639;replace q639:=eq_true q639;have p641 : 0 ≤ (x14_3 : Int):=odt qq258;have q641 : x14_3 < (t630.length : Int):=odt qq258;obtain ⟨ad641,e641,hx641_0⟩:=Kd.at_int (Kd.R_reads' HO_12.out).2.2 x14_3 p641 q641;obtain rfl : ad637 = ad641:=(by injection e641)
                 replace p641:=eq_true p641;replace q641:=eq_true q641;refine start_ (n:=29) (S:=fun w' => w'.cell? ⟨gb629,0,none⟩ = some (.int .i64 t620) ∧ w'.cell? ⟨gb629,1,none⟩ = some (.int .i64 t621) ∧ w'.cell? ⟨gb629,2,none⟩ = some (.slice Ao36 t622.length co36) ∧ w'.cell? (ad637.add (x14_3).toNat) = some (.int .i64 (rd t630 x14_3)) ∧ w'.cell? (ad637.add ((ji55)).toNat) = some (.int .i64 (rd t630 (ji55))) ∧ w'.cell? (ad637.add (x14_3).toNat) = some (.int .i64 (rd t630 x14_3))) (ds:=[]) m0_16 (by kernel_rfl) rfl rfl ⟨(blk_cell BK629.out 0).trans rfl,(blk_cell BK629.out 1).trans rfl,(blk_cell BK629.out 2).trans rfl,hx637_0,hx639_0,hx641_0⟩ (fun hHeld => ?_);refine with_tabW laws_FnSearch.tab21 laws_FnSearch.bits21 (fun HT_ HW_ => ?_)
                 generalize wr.drew = w66 at HO_11 HO_12 HO_615002 HO_630002 BK614 BK629 HB hx637_0 hx639_0 hx641_0 hHeld ⊢
                 refine pV (i:=0) (N:=some 96) m1_16 rfl rfl qT ?_
                 refine pV (i:=1) (N:=some 97) m2_16 rfl rfl qT ?_
                 refine pV (i:=2) (N:=some 98) m3_16 rfl rfl qT ?_
                 refine pV (i:=3) (N:=some 99) m4_16 rfl rfl qT ?_
                 refine tV6 (i:=4) (N:=some 100) m5_16 rfl rfl (take_ofW HT_.out HW_.out (by kernel_rfl)) hHeld ?_
                 refine one_ (i:=5) (N:=some 101) m6_16 rfl rfl (one_of HT_.out (by kernel_rfl)) (by decide) (fun K hK => ?_);refine goes_ Try.func8 (by kernel_rfl) rfl #[.slice Ao37 t626.length co37,.int .i64 (rd t630 x14_3)] (by rfl) rfl rfl qq139 ?_;with_reducible refine (laws_contains.calls k3 _ _ t626 (rd t630 x14_3) true _ ?side1 ?side2 A52.out).mono ?_
                 (case side1 => exact qq90);(case side2 => exact qq267)
                 rintro e w' ⟨rfl,⟨nd,rfl⟩⟩
                 refine ⟨_,rfl,?_⟩;refine hK.out _ _ ⟨(blk_cell BK629.out 0).trans rfl,(blk_cell BK629.out 1).trans rfl,(blk_cell BK629.out 2).trans rfl,hHeld.2.2.2.1,hHeld.2.2.2.2.1,hHeld.2.2.2.2.2⟩ (fun hHeld => ?_);clear hK K;refine norm_ (a':=?_) ?_ ?_;rotate_left
                 ·show Act.put _ (some 101) _ = _
                  simp only [Act.put,sA,s0,s1,i64_w,i32_w];rfl
                 refine pV (i:=6) (N:=some 102) m7_16 rfl rfl qT ?_
                 refine pV (i:=7) (N:=some 103) m8_16 rfl rfl qT ?_
                 refine pV (i:=8) (N:=some 104) m9_16 rfl rfl qT ?_
                 refine pV (i:=9) (N:=some 105) m10_16 rfl rfl qT ?_
                 refine pV (i:=10) (N:=some 106) m11_16 rfl rfl qT ?_
                 refine pV (i:=12) (N:=some 108) m12_16 rfl rfl qT ?_
                 refine pV (i:=13) (N:=some 109) m13_16 rfl rfl qT ?_
                 refine pV (i:=14) (N:=some 110) m14_16 rfl rfl qT ?_
                 refine pV (i:=15) (N:=some 111) m15_16 rfl rfl qT ?_
                 refine pV (i:=16) (N:=some 112) m16_16 rfl rfl qT ?_
                 refine pV (i:=20) (N:=some 116) m17_16 rfl rfl qT ?_
                 refine pV (i:=21) (N:=some 117) m18_16 rfl rfl qT ?_
                 refine pV (i:=22) (N:=some 118) m19_16 rfl rfl qT ?_
                 refine pV (i:=23) (N:=some 119) m20_16 rfl rfl qT ?_
                 refine tV6 (i:=11) (N:=some 107) m21_16 rfl rfl (take_ofW HT_.out HW_.out (by kernel_rfl)) hHeld ?_
                 refine tV6 (i:=17) (N:=some 113) m22_16 rfl rfl (take_ofW HT_.out HW_.out (by kernel_rfl)) hHeld ?_
                 refine tV6 (i:=19) (N:=some 115) m23_16 rfl rfl (take_ofW HT_.out HW_.out (by kernel_rfl)) hHeld ?_
                 refine tV6 (i:=24) (N:=some 120) m24_16 rfl rfl (take_ofW HT_.out HW_.out (by kernel_rfl)) hHeld ?_
                 refine one_ (i:=18) (N:=some 114) m25_16 rfl rfl (one_of HT_.out (by kernel_rfl)) (by decide) (fun K hK => ?_);refine goes_ Try.func7 (by kernel_rfl) rfl #[.agg #[.int .i64 t620,.int .i64 t621,.slice Ao36 t622.length co36],.int .i64 t625,.int .i64 (rd t630 (ji55))] (by rfl) rfl rfl qq74 ?_;with_reducible refine (impl_Days.calls k3 t620 t621 _ _ t622 t625 (rd t630 (ji55)) t640 _ ?side1 ?side2 A58.out).mono ?_
                 (case side1 => exact qq81);(case side2 => exact qq263)
                 rintro e w67 ⟨rfl,hb⟩
                 have HS3_:=(hb.cell (bl _ _ (hHeld.2.2.2.1))).trans (hHeld.2.2.2.1);have HS4_:=(hb.cell (bl _ _ (hHeld.2.2.2.2.1))).trans (hHeld.2.2.2.2.1);have HS5_:=(hb.cell (bl _ _ (hHeld.2.2.2.2.2))).trans (hHeld.2.2.2.2.2);refine ⟨_,rfl,?_⟩;replace HO_11:=am qq371;replace HO_12:=am qq372;replace HO_615002:=am qq368;replace HO_630002:=am qq373;replace BK614:=am qq320;replace BK629:=am qq317;replace HB:=am qq375;(try clear hb);(try clear hb2);(try clear hk);(try clear hi);refine hK.out _ _ ⟨(blk_cell BK629.out 0).trans rfl,(blk_cell BK629.out 1).trans rfl,(blk_cell BK629.out 2).trans rfl,HS3_,HS4_,HS5_⟩ (fun hHeld => ?_);clear hK K;refine norm_ (a':=?_) ?_ ?_;rotate_left
                 ·show Act.put _ (some 114) _ = _
                  simp only [Act.put,sA,s0,s1,i64_w,i32_w];rfl
                 refine one_ (i:=25) (N:=some 121) m26_16 rfl rfl (one_of HT_.out (by kernel_rfl)) (by decide) (fun K hK => ?_);refine goes_ Try.func7 (by kernel_rfl) rfl #[.agg #[.int .i64 t620,.int .i64 t621,.slice Ao36 t622.length co36],.int .i64 t625,.int .i64 (rd t630 x14_3)] (by rfl) rfl rfl qq139 ?_;with_reducible refine (impl_Days.calls k3 t620 t621 _ _ t622 t625 (rd t630 x14_3) t642 _ ?side1 ?side2 A59.out).mono ?_
                 (case side1 => exact qq81);(case side2 => exact qq263)
                 rintro e w68 ⟨rfl,hb⟩
                 have HS3_:=(hb.cell (bl _ _ (hHeld.2.2.2.1))).trans (hHeld.2.2.2.1);have HS4_:=(hb.cell (bl _ _ (hHeld.2.2.2.2.1))).trans (hHeld.2.2.2.2.1);have HS5_:=(hb.cell (bl _ _ (hHeld.2.2.2.2.2))).trans (hHeld.2.2.2.2.2);refine ⟨_,rfl,?_⟩;replace HO_11:=am qq371;replace HO_12:=am qq372;replace HO_615002:=am qq368;replace HO_630002:=am qq373;replace BK614:=am qq320;replace BK629:=am qq317;replace HB:=am qq375;(try clear hb);(try clear hb2);(try clear hk);(try clear hi);refine hK.out _ _ ⟨(blk_cell BK629.out 0).trans rfl,(blk_cell BK629.out 1).trans rfl,(blk_cell BK629.out 2).trans rfl,HS3_,HS4_,HS5_⟩ (fun hHeld => ?_);clear hK K;refine norm_ (a':=?_) ?_ ?_;rotate_left
                 ·show Act.put _ (some 121) _ = _
                  simp only [Act.put,sA,s0,s1,i64_w,i32_w];rfl
                 refine pV (i:=26) (N:=some 122) m27_16 rfl rfl qT ?_
                 refine pV (i:=27) (N:=some 123) m28_16 rfl rfl qT ?_
                 refine pV (i:=28) (N:=some 124) m29_16 rfl rfl qT ?_
                 refine done_ (done_of HT_.out (by kernel_rfl)) ?_
                 try go_wp2
                 go_roundg k3
                 case measure => have:=HK1.out;have:=HK2.out;have:=HK3.out;omega
                 case rel => exact ⟨(wrap64 (x14_3 + 1)),qq260,H',⟨qq259⟩,⟨qq225⟩,⟨qq224⟩,⟨qq164⟩,⟨qq163⟩,⟨qq180⟩,⟨qq179⟩,⟨qq69⟩⟩
               ·rw [if_neg c57] at H;exact absurd H (by simp)
              ·rw [if_neg c56] at H;exact absurd H (by simp)
             ·rw [if_neg c54] at H;have c54b0 : decide (0 < x14_3) = false:=decide_eq_false c54;clear c54;have H':=am H;clear H;obtain ⟨Ao69,co69,eo69⟩:=Kd.R_slice HO_12.out;subst eo69
              try go_wp2
              replace HO_11:=am qq369;replace HO_12:=am qq370;replace HO_615002:=am qq355;replace HO_630002:=am qq356;replace BK614:=am qq376;replace BK629:=am qq377;replace HB:=am qq374;have p637 : 0 ≤ (x14_3 : Int):=odt qq258;have q637 : x14_3 < (t630.length : Int):=odt qq258;obtain ⟨ad637,e637,hx637_0⟩:=Kd.at_int (Kd.R_reads' HO_12.out).2.2 x14_3 p637 q637
              cases e637
              replace p637:=eq_true p637;replace q637:=eq_true q637;refine start_ (n:=29) (S:=fun w' => w'.cell? (ad637.add (x14_3).toNat) = some (.int .i64 (rd t630 x14_3))) (ds:=[]) m0_16 (by kernel_rfl) rfl rfl (hx637_0) (fun hHeld => ?_);refine with_tabW laws_FnSearch.tab21 laws_FnSearch.bits21 (fun HT_ HW_ => ?_)
              generalize wr.drew = w70 at HO_11 HO_12 HO_615002 HO_630002 BK614 BK629 HB hx637_0 hHeld ⊢
              refine pV (i:=0) (N:=some 96) m1_16 rfl rfl qT ?_
              refine pV (i:=1) (N:=some 97) m2_16 rfl rfl qT ?_
              refine pV (i:=2) (N:=some 98) m3_16 rfl rfl qT ?_
              refine pV (i:=3) (N:=some 99) m4_16 rfl rfl qT ?_
              refine take_ (i:=4) (N:=some 100) (v:=?_) (a':=?_) m5_16 rfl rfl (take_ofW HT_.out HW_.out (by kernel_rfl)) (fun _ _ _ h => h) (Or.inl ⟨by rfl,?_⟩) hHeld ?_ ?_;rotate_left
              ·intro w' s0;go_simp;with_reducible rfl
              rotate_left
              ·simp only [Act.put,sA,s0,s1,i64_w,i32_w];rfl
              refine one_ (i:=5) (N:=some 101) m6_16 rfl rfl (one_of HT_.out (by kernel_rfl)) (by decide) (fun K hK => ?_);refine goes_ Try.func8 (by kernel_rfl) rfl #[.slice Ao37 t626.length co37,.int .i64 (rd t630 x14_3)] (by rfl) rfl rfl qq139 ?_;with_reducible refine (laws_contains.calls k3 _ _ t626 (rd t630 x14_3) true _ ?side1 ?side2 A52.out).mono ?_
              (case side1 => exact qq90);(case side2 => exact qq267)
              rintro e w' ⟨rfl,⟨nd,rfl⟩⟩
              refine ⟨_,rfl,?_⟩;refine hK.out _ _ (hHeld) (fun hHeld => ?_);clear hK K;refine norm_ (a':=?_) ?_ ?_;rotate_left
              ·show Act.put _ (some 101) _ = _
               simp only [Act.put,sA,s0,s1,i64_w,i32_w];rfl
              refine pV (i:=6) (N:=some 102) m7_16 rfl rfl qT ?_
              refine pV (i:=7) (N:=some 103) m8_16 rfl rfl qT ?_
              refine pV (i:=8) (N:=some 104) m9_16 rfl rfl qT ?_
              refine pV (i:=9) (N:=some 105) m10_16 rfl rfl qT ?_
              refine pV (i:=10) (N:=some 106) m11_16 rfl rfl qT ?_
              refine pW (i:=11) (N:=some 107) m30_16 rfl rfl qT ?_
              refine pW (i:=12) (N:=some 108) m31_16 rfl rfl qT ?_
              refine pW (i:=13) (N:=some 109) m32_16 rfl rfl qT ?_
              refine pW (i:=14) (N:=some 110) m33_16 rfl rfl qT ?_
              refine pW (i:=15) (N:=some 111) m34_16 rfl rfl qT ?_
              refine pW (i:=16) (N:=some 112) m35_16 rfl rfl qT ?_
              refine pW (i:=17) (N:=some 113) m36_16 rfl rfl qT ?_
              refine pW (i:=18) (N:=some 114) m37_16 rfl rfl qT ?_
              refine pW (i:=19) (N:=some 115) m38_16 rfl rfl qT ?_
              refine pW (i:=20) (N:=some 116) m39_16 rfl rfl qT ?_
              refine pW (i:=21) (N:=some 117) m40_16 rfl rfl qT ?_
              refine pW (i:=22) (N:=some 118) m41_16 rfl rfl qT ?_
              refine pW (i:=23) (N:=some 119) m42_16 rfl rfl qT ?_
              refine pW (i:=24) (N:=some 120) m25_16 rfl rfl qT ?_
              refine pW (i:=25) (N:=some 121) m26_16 rfl rfl qT ?_
              refine pW (i:=26) (N:=some 122) m27_16 rfl rfl qT ?_
              refine pV (i:=27) (N:=some 123) m28_16 rfl rfl qT ?_
              refine pV (i:=28) (N:=some 124) m29_16 rfl rfl qT ?_
              refine done_ (done_of HT_.out (by kernel_rfl)) ?_
              try go_wp2
              go_roundg k3
              case measure => have:=HK1.out;have:=HK2.out;have:=HK3.out;omega
              case rel => exact ⟨(wrap64 (x14_3 + 1)),qq260,H',⟨qq259⟩,⟨qq225⟩,⟨qq224⟩,⟨qq164⟩,⟨qq163⟩,⟨qq180⟩,⟨qq179⟩,⟨qq69⟩⟩
            ·replace c53:=Bool.eq_false_iff.mpr c53;subst c53;have H1 : (some false) = some r:=by rw [if_neg (show ¬ (false = true) by decide)] at H;exact H
             clear H;have H:=H1;clear H1;obtain rfl:=Option.some.inj H;obtain ⟨Ao71,co71,eo71⟩:=Kd.R_slice HO_12.out;subst eo71
             try go_wp2
             replace HO_11:=am qq369;replace HO_12:=am qq370;replace HO_615002:=am qq355;replace HO_630002:=am qq356;replace BK614:=am qq376;replace BK629:=am qq377;replace HB:=am qq374;have p637 : 0 ≤ (x14_3 : Int):=odt qq258;have q637 : x14_3 < (t630.length : Int):=odt qq258;obtain ⟨ad637,e637,hx637_0⟩:=Kd.at_int (Kd.R_reads' HO_12.out).2.2 x14_3 p637 q637
             cases e637
             replace p637:=eq_true p637;replace q637:=eq_true q637;refine start_ (n:=29) (S:=fun w' => w'.cell? (ad637.add (x14_3).toNat) = some (.int .i64 (rd t630 x14_3))) (ds:=[]) m0_16 (by kernel_rfl) rfl rfl (hx637_0) (fun hHeld => ?_);refine with_tabW laws_FnSearch.tab21 laws_FnSearch.bits21 (fun HT_ HW_ => ?_)
             generalize wr.drew = w72 at HO_11 HO_12 HO_615002 HO_630002 BK614 BK629 HB hx637_0 hHeld ⊢
             refine pV (i:=0) (N:=some 96) m1_16 rfl rfl qT ?_
             refine pV (i:=1) (N:=some 97) m2_16 rfl rfl qT ?_
             refine pV (i:=2) (N:=some 98) m3_16 rfl rfl qT ?_
             refine pV (i:=3) (N:=some 99) m4_16 rfl rfl qT ?_
             refine take_ (i:=4) (N:=some 100) (v:=?_) (a':=?_) m5_16 rfl rfl (take_ofW HT_.out HW_.out (by kernel_rfl)) (fun _ _ _ h => h) (Or.inl ⟨by rfl,?_⟩) hHeld ?_ ?_;rotate_left
             ·intro w' s0;go_simp;with_reducible rfl
             rotate_left
             ·simp only [Act.put,sA,s0,s1,i64_w,i32_w];rfl
             refine one_ (i:=5) (N:=some 101) m6_16 rfl rfl (one_of HT_.out (by kernel_rfl)) (by decide) (fun K hK => ?_);refine goes_ Try.func8 (by kernel_rfl) rfl #[.slice Ao37 t626.length co37,.int .i64 (rd t630 x14_3)] (by rfl) rfl rfl qq139 ?_;with_reducible refine (laws_contains.calls k3 _ _ t626 (rd t630 x14_3) false _ ?side1 ?side2 A52.out).mono ?_
             (case side1 => exact qq90);(case side2 => exact qq267)
             rintro e w' ⟨rfl,⟨nd,rfl⟩⟩
             refine ⟨_,rfl,?_⟩;refine hK.out _ _ (hHeld) (fun hHeld => ?_);clear hK K;refine norm_ (a':=?_) ?_ ?_;rotate_left
             ·show Act.put _ (some 101) _ = _
              simp only [Act.put,sA,s0,s1,i64_w,i32_w];rfl
             refine pV (i:=6) (N:=some 102) m7_16 rfl rfl qT ?_
             refine pV (i:=7) (N:=some 103) m8_16 rfl rfl qT ?_
             refine pW (i:=8) (N:=some 104) m9_16 rfl rfl qT ?_
             refine pW (i:=9) (N:=some 105) m10_16 rfl rfl qT ?_
             refine pW (i:=10) (N:=some 106) m11_16 rfl rfl qT ?_
             refine pW (i:=11) (N:=some 107) m30_16 rfl rfl qT ?_
             refine pW (i:=12) (N:=some 108) m31_16 rfl rfl qT ?_
             refine pW (i:=13) (N:=some 109) m32_16 rfl rfl qT ?_
             refine pW (i:=14) (N:=some 110) m33_16 rfl rfl qT ?_
             refine pW (i:=15) (N:=some 111) m34_16 rfl rfl qT ?_
             refine pW (i:=16) (N:=some 112) m35_16 rfl rfl qT ?_
             refine pW (i:=17) (N:=some 113) m36_16 rfl rfl qT ?_
             refine pW (i:=18) (N:=some 114) m37_16 rfl rfl qT ?_
             refine pW (i:=19) (N:=some 115) m38_16 rfl rfl qT ?_
             refine pW (i:=20) (N:=some 116) m39_16 rfl rfl qT ?_
             refine pW (i:=21) (N:=some 117) m40_16 rfl rfl qT ?_
             refine pW (i:=22) (N:=some 118) m41_16 rfl rfl qT ?_
             refine pW (i:=23) (N:=some 119) m42_16 rfl rfl qT ?_
             refine pW (i:=24) (N:=some 120) m25_16 rfl rfl qT ?_
             refine pW (i:=25) (N:=some 121) m26_16 rfl rfl qT ?_
             refine pW (i:=26) (N:=some 122) m27_16 rfl rfl qT ?_
             refine pW (i:=27) (N:=some 123) m28_16 rfl rfl qT ?_
             refine pV (i:=28) (N:=some 124) m29_16 rfl rfl qT ?_
             refine done_ (done_of HT_.out (by kernel_rfl)) ?_
             try go_wp2
             go_ret
             exact ⟨qq216,qq69⟩
           ·rw [if_neg c51] at H;exact absurd H (by simp)
          ·rw [if_neg c50] at H;have c50b0 : decide (x14_3 < (t630.length : Int)) = false:=decide_eq_false c50;clear c50;replace H:=bS.mp H;obtain ⟨⟨t643,t644,t645,t648,t649,t652⟩,A730,H⟩:=H;replace H : ((impl_MeetDay.f k3 t643 t644 t645 t648 t649 t652).bind fun bt654 => (if bt654.1 ≥ 0 then (if bt654.1 < t652 then (laws_FnSearch.j3 k3 l0 true) else ((laws_contains.f k3 t649 bt654.2).bind fun t656 => (if t656 = true then ((impl_Days.f k3 t643 t644 t645 t648 bt654.2).bind fun t657 => (laws_FnSearch.j3 k3 l0 (decide (t657 > (wrap64 (bt654.1 - t652)))))) else (laws_FnSearch.j3 k3 l0 true)))) else (laws_FnSearch.j3 k3 l0 false))) = some r:=H;have A73:=am A730;clear A730;replace H:=bS.mp H;obtain ⟨⟨t654,t655⟩,A740,H⟩:=H;replace H : (if t654 ≥ 0 then (if t654 < t652 then (laws_FnSearch.j3 k3 l0 true) else ((laws_contains.f k3 t649 t655).bind fun t656 => (if t656 = true then ((impl_Days.f k3 t643 t644 t645 t648 t655).bind fun t657 => (laws_FnSearch.j3 k3 l0 (decide (t657 > (wrap64 (t654 - t652)))))) else (laws_FnSearch.j3 k3 l0 true)))) else (laws_FnSearch.j3 k3 l0 false)) = some r:=H;have A74:=am A740;clear A740;have HC75:=am H;clear H;obtain ⟨Ao76,co76,eo76⟩:=Kd.R_slice HO_12.out;subst eo76
           go_upto_region 25 with (first | ((with_reducible refine gate_callee (f:=11) rfl ?_);refine goesL_ (some 127) rfl rfl Try.func11 (by kernel_rfl) rfl #[.slice A0 l0.length c0] rfl qq139 ?_;(with_reducible refine (spec_DrawMeetDay.calls k3 _ _ l0 t643 t644 t645 t648 t649 t652 _ ?side1 ?side2 A73.out).mono ?_);(case side1 => exact qq95);(case side2 => exact HC0.out);rintro e w77 ⟨v646,v650,rfl,ho0,ho1,hb⟩;refine ⟨_,rfl,?_⟩;have HO647:=am (Kd.Q_lower (Kd.Q_new' (Kd.Q_new' (Kd.Q_new' (Kd.Q_new' ho0 (Kd.R_lt qq225)) (Kd.R_lt qq224)) (Kd.Q_lt qq164)) (Kd.Q_lt qq163)) (below_size qq69));have HO651:=am (Kd.R_lower (Kd.R_new' (Kd.R_new' (Kd.R_new' (Kd.R_new' ho1 (Kd.R_lt qq225)) (Kd.R_lt qq224)) (Kd.Q_lt qq164)) (Kd.Q_lt qq163)) (below_size qq69));replace HO_11:=am (Kd.R_mono (Kd.R_told (Kd.R_told (Kd.R_old qq225 hb) (Kd.Q_base ho0)) (Kd.R_base ho1)) (fun _ h_ => h_.1));replace HO_12:=am (Kd.R_mono (Kd.R_told (Kd.R_told (Kd.R_old qq224 hb) (Kd.Q_base ho0)) (Kd.R_base ho1)) (fun _ h_ => h_.1));replace HO_615002:=am qq321;replace HO_630002:=am (Kd.Q_mono (Kd.Q_told (Kd.Q_told (Kd.Q_old qq163 hb) (Kd.Q_base ho0)) (Kd.R_base ho1)) (fun _ h_ => h_.1));replace BK614:=am qq320;replace BK629:=am qq317;replace HB:=am qq375;(try clear hb);(try clear hb2);(try clear hk);(try clear hi);(try clear ho0);(try clear ho1)) | ((with_reducible refine gate_dst (N:=15) rfl ?_);refine box_event ?hg (N:=15) ?hd (cs:=#[.int .i64 0,.int .i64 0,.slice none 0 0]) (t:=26) ?hr ?_;(case hd => rfl);(case hg => rfl);(case hr => exact qq261);intro gb653 hg w78 hbox hb;replace HO_11:=am qq371;replace HO_12:=am qq372;replace HO_615002:=am qq368;replace HO_630002:=am qq373;replace HO647:=am (Kd.Q_below qq167 hb);replace HO651:=am (Kd.R_below qq228 hb);have BK653:=am (hbox);have GW653:=am ((qq55 : w.heap.size ≤ gb653));have GE653:=am ((qq55 : w.heap.size ≤ gb653));replace HB:=am qq375;have NB614_653:=am ((qq37 : gb614 ≠ gb653));have NB653_614:=am ((qq38 : gb653 ≠ gb614));replace BK614:=am qq320;have NB629_653:=am ((by rw [hg];exact Nat.ne_of_lt (blk_lt (g:=gb629) (o:=.cells #[.int .i64 t620,.int .i64 t621,.slice Ao36 t622.length co36] 26 (0,0)) qq179) : gb629 ≠ gb653));have NB653_629:=am ((by rw [hg];exact Nat.ne_of_gt (blk_lt (g:=gb629) (o:=.cells #[.int .i64 t620,.int .i64 t621,.slice Ao36 t622.length co36] 26 (0,0)) qq179) : gb653 ≠ gb629));replace BK629:=am qq317;clear hb hbox hg;have hnb79:=NB653_614.out;have hnc79:=NB614_653.out;have hnb80:=NB653_629.out;have hnc80:=NB629_653.out;obtain ⟨hcz81_0,hcz81_1,hcz81_2,hfz81_0,hfz81_1,hfz81_2⟩:=bcl3 BK653.out;obtain ⟨Ao82,co82,eo82,_⟩:=Kd.Q_slice HO647.out;subst eo82;obtain ⟨Ao83,co83,eo83⟩:=Kd.R_slice HO651.out;subst eo83) | ((with_reducible refine gate_callee (f:=12) rfl ?_);refine goesL_ (some 137) rfl rfl Try.func12 (by kernel_rfl) rfl #[.agg #[.int .i64 t643,.int .i64 t644,.slice Ao82 t645.length co82],.int .i64 t648,.slice Ao83 t649.length co83,.int .i64 t652] rfl qq139 ?_;(with_reducible refine (impl_MeetDay.calls k3 t643 t644 _ _ t645 t648 _ _ t649 t652 t654 t655 _ ?side1 ?side2 ?side3 ?side4 A74.out).mono ?_);(case side1 => refine (Kd.Q_reads' (e:=3) (base:=w.heap.size) (ok:=fun k_ => ((((some k_ ≠ (.slice Ao83 t649.length co83 : Value).ownBlock ∧ some k_ ≠ (.slice Ao37 t626.length co37 : Value).ownBlock) ∧ some k_ ≠ (.slice Ao76 t630.length co76 : Value).ownBlock) ∧ some k_ ≠ (.slice Ao9 t609.length co9 : Value).ownBlock) ∧ some k_ ≠ (.slice Ao36 t622.length co36 : Value).ownBlock)) (n:=t645.length) (c:=co82) ?_).2.2;exact qq14);(case side2 => exact (Kd.Q_reads' HO647.out).2.1);(case side3 => refine (Kd.R_reads' (e:=3) (base:=w.heap.size) (ok:=fun k_ => ((((some k_ ≠ (.slice Ao82 t645.length co82 : Value).ownBlock ∧ some k_ ≠ (.slice Ao37 t626.length co37 : Value).ownBlock) ∧ some k_ ≠ (.slice Ao76 t630.length co76 : Value).ownBlock) ∧ some k_ ≠ (.slice Ao9 t609.length co9 : Value).ownBlock) ∧ some k_ ≠ (.slice Ao36 t622.length co36 : Value).ownBlock)) (n:=t649.length) (c:=co83) ?_).2.2;exact qq19);(case side4 => exact qq268);rintro e w84 ⟨rfl,hb⟩;refine ⟨_,rfl,?_⟩;replace HO_11:=am (Kd.R_below (by (with_reducible repeat (first | apply kA | apply kN | apply kD));exact (Kd.R_mono (Kd.R_far (p:=⟨gb653,2,none⟩) (Kd.R_far (p:=⟨gb653,1,none⟩) (Kd.R_far (p:=⟨gb653,0,none⟩) (Kd.R_types HO_11.out BK653.out (by decide)) (fun _ hk => hk.2) (.int .i64 t643)) (fun _ hk => hk.2) (.int .i64 t644)) (fun _ hk => hk.2) (.slice Ao82 t645.length co82)) (fun _ h_ => h_.1))) hb);replace HO_12:=am (Kd.R_below (by (with_reducible repeat (first | apply kA | apply kN | apply kD));exact (Kd.R_mono (Kd.R_far (p:=⟨gb653,2,none⟩) (Kd.R_far (p:=⟨gb653,1,none⟩) (Kd.R_far (p:=⟨gb653,0,none⟩) (Kd.R_types HO_12.out BK653.out (by decide)) (fun _ hk => hk.2) (.int .i64 t643)) (fun _ hk => hk.2) (.int .i64 t644)) (fun _ hk => hk.2) (.slice Ao82 t645.length co82)) (fun _ h_ => h_.1))) hb);replace HO_615002:=am (Kd.Q_below (by (with_reducible repeat (first | apply Kd.Q_alloc | apply Kd.Q_drewN | apply Kd.Q_drew));exact (Kd.Q_mono (Kd.Q_far (p:=⟨gb653,2,none⟩) (Kd.Q_far (p:=⟨gb653,1,none⟩) (Kd.Q_far (p:=⟨gb653,0,none⟩) (Kd.Q_types HO_615002.out BK653.out (by decide)) (fun _ hk => hk.2) (.int .i64 t643)) (fun _ hk => hk.2) (.int .i64 t644)) (fun _ hk => hk.2) (.slice Ao82 t645.length co82)) (fun _ h_ => h_.1))) hb);replace HO_630002:=am (Kd.Q_below (by (with_reducible repeat (first | apply Kd.Q_alloc | apply Kd.Q_drewN | apply Kd.Q_drew));exact (Kd.Q_mono (Kd.Q_far (p:=⟨gb653,2,none⟩) (Kd.Q_far (p:=⟨gb653,1,none⟩) (Kd.Q_far (p:=⟨gb653,0,none⟩) (Kd.Q_types HO_630002.out BK653.out (by decide)) (fun _ hk => hk.2) (.int .i64 t643)) (fun _ hk => hk.2) (.int .i64 t644)) (fun _ hk => hk.2) (.slice Ao82 t645.length co82)) (fun _ h_ => h_.1))) hb);replace HO647:=am (Kd.Q_below qq14 hb);replace HO651:=am (Kd.R_below qq19 hb);replace BK614:=am (blk_below (g:=gb614) (o:=.cells #[.int .i64 t607,.int .i64 t608,.slice Ao9 t609.length co9] 26 (0,0)) (by (with_reducible repeat (first | refine dN ?_ _ | refine dD ?_ | refine dA ?_ _));refine blk_far ?_ NB614_653.out _;(with_reducible repeat (first | refine dN ?_ _ | refine dD ?_ | refine dA ?_ _));refine blk_far ?_ NB614_653.out _;(with_reducible repeat (first | refine dN ?_ _ | refine dD ?_ | refine dA ?_ _));refine blk_far ?_ NB614_653.out _;(with_reducible repeat (first | refine dN ?_ _ | refine dD ?_ | refine dA ?_ _));exact BK614.out) hb);replace BK629:=am (blk_below (g:=gb629) (o:=.cells #[.int .i64 t620,.int .i64 t621,.slice Ao36 t622.length co36] 26 (0,0)) (by (with_reducible repeat (first | refine dN ?_ _ | refine dD ?_ | refine dA ?_ _));refine blk_far ?_ NB629_653.out _;(with_reducible repeat (first | refine dN ?_ _ | refine dD ?_ | refine dA ?_ _));refine blk_far ?_ NB629_653.out _;(with_reducible repeat (first | refine dN ?_ _ | refine dD ?_ | refine dA ?_ _));refine blk_far ?_ NB629_653.out _;(with_reducible repeat (first | refine dN ?_ _ | refine dD ?_ | refine dA ?_ _));exact BK629.out) hb);replace BK653:=am (blk_below (g:=gb653) (o:=.cells #[.int .i64 t643,.int .i64 t644,.slice Ao82 t645.length co82] 26 (0,0)) (by (with_reducible repeat (first | refine dN ?_ _ | refine dD ?_ | refine dA ?_ _));refine blk_put (cs:=#[.int .i64 t643,.int .i64 t644,.slice none 0 0]) ?_ 2 _ rfl;(with_reducible repeat (first | refine dN ?_ _ | refine dD ?_ | refine dA ?_ _));refine blk_put (cs:=#[.int .i64 t643,.int .i64 0,.slice none 0 0]) ?_ 1 _ rfl;(with_reducible repeat (first | refine dN ?_ _ | refine dD ?_ | refine dA ?_ _));refine blk_put (cs:=#[.int .i64 0,.int .i64 0,.slice none 0 0]) ?_ 0 _ rfl;(with_reducible repeat (first | refine dN ?_ _ | refine dD ?_ | refine dA ?_ _));exact BK653.out) hb);replace HB:=am (below_step qq56 hb);(try clear hb);(try clear hb2);(try clear hk);(try clear hi)))
           (try simp only [Act.put,sA,s0,s1])
           go_cut [162] (fun v162 wc => ∃ (kq : Nat) (x162_74 : Bool),v162 = .bool x162_74 ∧ Aside0 (laws_FnSearch.j3 kq l0 x162_74 = some r) ∧ Aside0 (kq ≤ k3) ∧ Aside0 (Kd.Q (Kd.int .i64) 3 wc w.heap.size (fun k_ => some k_ ≠ ((.slice Ao36 t622.length co36) : Value).ownBlock ∧ some k_ ≠ ((.slice Ao82 t645.length co82) : Value).ownBlock) (.slice Ao9 t609.length co9) t609) ∧ Aside0 (Kd.Q (Kd.int .i64) 3 wc w.heap.size (fun k_ => some k_ ≠ ((.slice Ao9 t609.length co9) : Value).ownBlock ∧ some k_ ≠ ((.slice Ao82 t645.length co82) : Value).ownBlock) (.slice Ao36 t622.length co36) t622) ∧ Aside0 (Kd.Q (Kd.int .i64) 3 wc w.heap.size (fun k_ => some k_ ≠ ((.slice Ao9 t609.length co9) : Value).ownBlock ∧ some k_ ≠ ((.slice Ao36 t622.length co36) : Value).ownBlock) (.slice Ao82 t645.length co82) t645) ∧ Aside0 (wc.heap[gb614]? = some (.cells #[.int .i64 t607,.int .i64 t608,(.slice Ao9 t609.length co9)] 26 (0,0))) ∧ Aside0 (wc.heap[gb629]? = some (.cells #[.int .i64 t620,.int .i64 t621,(.slice Ao36 t622.length co36)] 26 (0,0))) ∧ Aside0 (wc.heap[gb653]? = some (.cells #[.int .i64 t643,.int .i64 t644,(.slice Ao82 t645.length co82)] 26 (0,0))) ∧ Aside0 (Below w.heap.size w wc))
           case first =>
            have H:=HC75.out;clear HC75
            by_cases c85 : t654 ≥ 0
            ·rw [if_pos c85] at H;have c85b0 : decide (0 ≤ t654) = true:=decide_eq_true c85;clear c85;(first | rw [c85b0] | (simp only [i64_w,i32_w];rw [c85b0]) | skip)
             by_cases c86 : t654 < t652
             ·rw [if_pos c86] at H;have c86b0 : decide (t654 < t652) = true:=decide_eq_true c86;clear c86;have H':=am H;clear H;go_wp2
              go_meet
              case rel => exact ⟨_,(true),qq260,H',⟨qq252⟩,⟨qq85⟩,⟨qq84⟩,⟨qq104⟩,⟨qq180⟩,⟨qq179⟩,⟨qq178⟩,⟨qq56⟩⟩
             ·rw [if_neg c86] at H;have c86b0 : decide (t654 < t652) = false:=decide_eq_false c86;clear c86;replace H:=bS.mp H;obtain ⟨t656,A870,H⟩:=H;replace H : (if t656 = true then ((impl_Days.f k3 t643 t644 t645 t648 t655).bind fun t657 => (laws_FnSearch.j3 k3 l0 (decide (t657 > (wrap64 (t654 - t652)))))) else (laws_FnSearch.j3 k3 l0 true)) = some r:=H;have A87:=am A870;clear A870
              by_cases c88 : t656 = true
              ·subst c88;have H1 : ((impl_Days.f k3 t643 t644 t645 t648 t655).bind fun t657 => (laws_FnSearch.j3 k3 l0 (decide (t657 > (wrap64 (t654 - t652)))))) = some r:=by rw [if_pos rfl] at H;exact H
               clear H;have H:=H1;clear H1;replace H:=bS.mp H;obtain ⟨t657,A890,H⟩:=H;replace H : (laws_FnSearch.j3 k3 l0 (decide (t657 > (wrap64 (t654 - t652))))) = some r:=H;have A89:=am A890;clear A890;have H':=am H;clear H;go_wp2_with (first | (go_at_call 8;(with_reducible refine (laws_contains.calls k3 _ _ t649 t655 true _ ?side1 ?side2 A87.out).mono ?_);(case side1 => exact qq91);(case side2 => exact qq268);rintro e w' ⟨rfl,⟨nd,rfl⟩⟩;have hnb90:=NB653_614.out;have hnc90:=NB614_653.out;have hnb91:=NB653_629.out;have hnc91:=NB629_653.out;obtain ⟨hcz92_0,hcz92_1,hcz92_2,hfz92_0,hfz92_1,hfz92_2⟩:=bcl3 BK653.out) | (go_at_call 7;(with_reducible refine (impl_Days.calls k3 t643 t644 _ _ t645 t648 t655 t657 _ ?side1 ?side2 A89.out).mono ?_);(case side1 => repeat (first | exact (Kd.Q_reads' HO647.out).2.2 | (with_reducible refine cA ?_ _) | (with_reducible refine cN ?_ _) | (with_reducible refine cD ?_)));(case side2 => exact (Kd.Q_reads' HO647.out).2.1);rintro e w93 ⟨rfl,hb⟩;replace HO_11:=am qq371;replace HO_12:=am qq372;replace HO_615002:=am qq368;replace HO_630002:=am qq373;replace HO647:=am (Kd.Q_below qq167 hb);replace HO651:=am (Kd.R_below qq228 hb);replace BK614:=am qq320;replace BK629:=am qq317;replace BK653:=am qq318;replace HB:=am (below_step qq56 hb);(try clear hb);(try clear hb2);(try clear hk);(try clear hi)))
               go_meet
               case rel => exact ⟨_,(decide (t657 > (wrap64 (t654 - t652)))),qq260,H',⟨qq252⟩,⟨qq85⟩,⟨qq84⟩,⟨qq104⟩,⟨qq180⟩,⟨qq179⟩,⟨qq178⟩,⟨qq56⟩⟩
              ·replace c88:=Bool.eq_false_iff.mpr c88;subst c88;have H1 : (laws_FnSearch.j3 k3 l0 true) = some r:=by rw [if_neg (show ¬ (false = true) by decide)] at H;exact H
               clear H;have H:=H1;clear H1;have H':=am H;clear H;go_wp2_with (first | (go_at_call 8;(with_reducible refine (laws_contains.calls k3 _ _ t649 t655 false _ ?side1 ?side2 A87.out).mono ?_);(case side1 => exact qq91);(case side2 => exact qq268);rintro e w' ⟨rfl,⟨nd,rfl⟩⟩))
               go_meet
               case rel => exact ⟨_,(true),qq260,H',⟨qq252⟩,⟨qq85⟩,⟨qq84⟩,⟨qq104⟩,⟨qq180⟩,⟨qq179⟩,⟨qq178⟩,⟨qq56⟩⟩
            ·rw [if_neg c85] at H;have c85b0 : decide (0 ≤ t654) = false:=decide_eq_false c85;clear c85;(first | rw [c85b0] | (simp only [i64_w,i32_w];rw [c85b0]) | skip);have H':=am H;clear H;go_wp2
             go_meet
             case rel => exact ⟨_,(false),qq260,H',⟨qq252⟩,⟨qq85⟩,⟨qq84⟩,⟨qq104⟩,⟨qq180⟩,⟨qq179⟩,⟨qq178⟩,⟨qq56⟩⟩
           case rest =>
            clear HC75
            try clear c1
            try clear p2
            try clear c5
            try clear p6
            try clear q6
            try clear hx6
            try clear c7
            try clear c8
            try clear c9
            try clear c11
            try clear c12
            try clear c50
            try clear c50b0
            try clear c51
            try clear c53
            try clear c54
            try clear c54b0
            try clear c56
            try clear c57
            try clear p63
            try clear q63
            try clear hx63
            try clear p64
            try clear c79
            try clear c80
            try clear c85
            try clear c85b0
            try clear c86
            try clear c86b0
            try clear c88
            try clear c90
            try clear c91
            try clear hcz81_0
            try clear hcz81_1
            try clear hcz81_2
            try clear hcz92_0
            try clear hcz92_1
            try clear hcz92_2
            try clear hfz81_0
            try clear hfz81_1
            try clear hfz81_2
            try clear hfz92_0
            try clear hfz92_1
            try clear hfz92_2
            try clear hx637_0
            try clear p637
            try clear q637
            obtain ⟨kq,x162_74,rfl,HA,HJ74,HO_615002,HO_630002,HO_654002,BK614,BK629,BK653,HB⟩:=hcut
            cases kq with
            | zero => exact absurd HA.out (by simp [laws_FnSearch.j3])
            | succ kj74 =>
             have H:=HA.out;clear HA;simp only [laws_FnSearch.j3] at H
             by_cases c94 : x162_74 = true
             ·subst c94;have H1 : (some false) = some r:=by rw [if_pos rfl] at H;exact H
              clear H;have H:=H1;clear H1;obtain rfl:=Option.some.inj H;go_wp2
              go_ret
              exact ⟨qq216,qq56⟩
             ·replace c94:=Bool.eq_false_iff.mpr c94;subst c94;have H1 : ((spec_DrawStillIn.f kj74 l0).bind fun bt658 => ((impl_StillIn.f kj74 bt658.1 bt658.2).bind fun t664 => (laws_FnSearch.l3 kj74 bt658.1 bt658.2 t664 0))) = some r:=by rw [if_neg (show ¬ (false = true) by decide)] at H;exact H
              clear H;have H:=H1;clear H1;replace H:=bS.mp H;obtain ⟨⟨t658,t659⟩,A950,H⟩:=H;replace H : ((impl_StillIn.f kj74 t658 t659).bind fun t664 => (laws_FnSearch.l3 kj74 t658 t659 t664 0)) = some r:=H;have A95:=am A950;clear A950;replace H:=bS.mp H;obtain ⟨t664,A960,H⟩:=H;replace H : (laws_FnSearch.l3 kj74 t658 t659 t664 0) = some r:=H;have A96:=am A960;clear A960;have H':=am H;clear H;go_wp2_with (first | ((with_reducible refine gate_callee (f:=13) rfl ?_);refine goesL_ (some 165) rfl rfl Try.func13 (by kernel_rfl) rfl #[.slice A0 l0.length c0] rfl qq139 ?_;(with_reducible refine (spec_DrawStillIn.calls kj74 _ _ l0 t658 t659 _ ?side1 ?side2 A95.out).mono ?_);(case side1 => exact qq95);(case side2 => exact HC0.out);rintro e w97 ⟨v660,v662,rfl,ho0,ho1,hb⟩;refine ⟨_,rfl,?_⟩;have HO661:=am (Kd.R_lower (Kd.R_new' (Kd.R_new' (Kd.R_new' ho0 (Kd.Q_lt qq164)) (Kd.Q_lt qq163)) (Kd.Q_lt qq162)) (below_size qq56));have HO663:=am (Kd.R_lower (Kd.R_new' (Kd.R_new' (Kd.R_new' ho1 (Kd.Q_lt qq164)) (Kd.Q_lt qq163)) (Kd.Q_lt qq162)) (below_size qq56));replace HO_615002:=am (Kd.Q_mono (Kd.Q_told (Kd.Q_told (Kd.Q_old qq164 hb) (Kd.R_base ho0)) (Kd.R_base ho1)) (fun _ h_ => h_.1));replace HO_630002:=am (Kd.Q_mono (Kd.Q_told (Kd.Q_told (Kd.Q_old qq163 hb) (Kd.R_base ho0)) (Kd.R_base ho1)) (fun _ h_ => h_.1));replace HO_654002:=am (Kd.Q_mono (Kd.Q_told (Kd.Q_told (Kd.Q_old qq162 hb) (Kd.R_base ho0)) (Kd.R_base ho1)) (fun _ h_ => h_.1));replace BK614:=am qq320;replace BK629:=am qq317;replace BK653:=am qq318;replace HB:=am (below_step qq56 hb);(try clear hb);(try clear hb2);(try clear hk);(try clear hi);(try clear ho0);(try clear ho1);obtain ⟨Ao98,co98,eo98⟩:=Kd.R_slice HO661.out;subst eo98;obtain ⟨Ao99,co99,eo99⟩:=Kd.R_slice HO663.out;subst eo99) | ((with_reducible refine gate_callee (f:=14) rfl ?_);refine goesL_ (some 170) rfl rfl Try.func14 (by kernel_rfl) rfl #[.slice Ao98 t658.length co98,.slice Ao99 t659.length co99] rfl qq139 ?_;(with_reducible refine (impl_StillIn.calls kj74 _ _ t658 _ _ t659 t664 _ ?side1 ?side2 ?side3 ?side4 A96.out).mono ?_);(case side1 => repeat (first | exact (Kd.R_reads' HO661.out).2.2 | (with_reducible refine cA ?_ _) | (with_reducible refine cN ?_ _) | (with_reducible refine cD ?_)));(case side2 => exact (Kd.R_reads' HO661.out).2.1);(case side3 => repeat (first | exact (Kd.R_reads' HO663.out).2.2 | (with_reducible refine cA ?_ _) | (with_reducible refine cN ?_ _) | (with_reducible refine cD ?_)));(case side4 => exact (Kd.R_reads' HO663.out).2.1);rintro e w100 ⟨v665,rfl,ho0,hb⟩;refine ⟨_,rfl,?_⟩;have HO666:=am (Kd.R_lower (Kd.R_new' (Kd.R_new' (Kd.R_new' (Kd.R_new' (Kd.R_new' ho0 (Kd.Q_lt qq164)) (Kd.Q_lt qq163)) (Kd.Q_lt qq162)) (Kd.R_lt qq227)) (Kd.R_lt qq226)) (below_size qq56));replace HO_615002:=am (Kd.Q_elder' qq164 (Kd.R_base ho0) hb);replace HO_630002:=am (Kd.Q_elder' qq163 (Kd.R_base ho0) hb);replace HO_654002:=am (Kd.Q_elder' qq162 (Kd.R_base ho0) hb);replace HO661:=am (Kd.R_elder' qq227 (Kd.R_base ho0) hb);replace HO663:=am (Kd.R_elder' qq226 (Kd.R_base ho0) hb);replace BK614:=am qq320;replace BK629:=am qq317;replace BK653:=am qq318;replace HB:=am (below_step qq56 hb);(try clear hb);(try clear hb2);(try clear hk);(try clear hi);(try clear ho0)))
              go_loopg [24] kj74 (fun kq v24 w' => ∃ (x24_5 : Int),v24 = .int .i64 x24_5 ∧ Aside0 (laws_FnSearch.l3 kq t658 t659 t664 x24_5 = some r) ∧ Aside0 (kq ≤ kj74) ∧ Aside0 (Kd.R (Kd.int .i64) 3 w' w.heap.size (fun k_ => some k_ ≠ ((.slice Ao99 t659.length co99) : Value).ownBlock ∧ some k_ ≠ (v665 : Value).ownBlock ∧ some k_ ≠ ((.slice Ao9 t609.length co9) : Value).ownBlock ∧ some k_ ≠ ((.slice Ao36 t622.length co36) : Value).ownBlock ∧ some k_ ≠ ((.slice Ao82 t645.length co82) : Value).ownBlock) (.slice Ao98 t658.length co98) t658) ∧ Aside0 (Kd.R (Kd.int .i64) 3 w' w.heap.size (fun k_ => some k_ ≠ ((.slice Ao98 t658.length co98) : Value).ownBlock ∧ some k_ ≠ (v665 : Value).ownBlock ∧ some k_ ≠ ((.slice Ao9 t609.length co9) : Value).ownBlock ∧ some k_ ≠ ((.slice Ao36 t622.length co36) : Value).ownBlock ∧ some k_ ≠ ((.slice Ao82 t645.length co82) : Value).ownBlock) (.slice Ao99 t659.length co99) t659) ∧ Aside0 (Kd.R (Kd.int .i64) 3 w' w.heap.size (fun k_ => some k_ ≠ ((.slice Ao98 t658.length co98) : Value).ownBlock ∧ some k_ ≠ ((.slice Ao99 t659.length co99) : Value).ownBlock ∧ some k_ ≠ ((.slice Ao9 t609.length co9) : Value).ownBlock ∧ some k_ ≠ ((.slice Ao36 t622.length co36) : Value).ownBlock ∧ some k_ ≠ ((.slice Ao82 t645.length co82) : Value).ownBlock) v665 t664) ∧ Aside0 (Kd.Q (Kd.int .i64) 3 w' w.heap.size (fun k_ => some k_ ≠ ((.slice Ao98 t658.length co98) : Value).ownBlock ∧ some k_ ≠ ((.slice Ao99 t659.length co99) : Value).ownBlock ∧ some k_ ≠ (v665 : Value).ownBlock ∧ some k_ ≠ ((.slice Ao36 t622.length co36) : Value).ownBlock ∧ some k_ ≠ ((.slice Ao82 t645.length co82) : Value).ownBlock) (.slice Ao9 t609.length co9) t609) ∧ Aside0 (Kd.Q (Kd.int .i64) 3 w' w.heap.size (fun k_ => some k_ ≠ ((.slice Ao98 t658.length co98) : Value).ownBlock ∧ some k_ ≠ ((.slice Ao99 t659.length co99) : Value).ownBlock ∧ some k_ ≠ (v665 : Value).ownBlock ∧ some k_ ≠ ((.slice Ao9 t609.length co9) : Value).ownBlock ∧ some k_ ≠ ((.slice Ao82 t645.length co82) : Value).ownBlock) (.slice Ao36 t622.length co36) t622) ∧ Aside0 (Kd.Q (Kd.int .i64) 3 w' w.heap.size (fun k_ => some k_ ≠ ((.slice Ao98 t658.length co98) : Value).ownBlock ∧ some k_ ≠ ((.slice Ao99 t659.length co99) : Value).ownBlock ∧ some k_ ≠ (v665 : Value).ownBlock ∧ some k_ ≠ ((.slice Ao9 t609.length co9) : Value).ownBlock ∧ some k_ ≠ ((.slice Ao36 t622.length co36) : Value).ownBlock) (.slice Ao82 t645.length co82) t645) ∧ Aside0 (w'.heap[gb614]? = some (.cells #[.int .i64 t607,.int .i64 t608,(.slice Ao9 t609.length co9)] 26 (0,0))) ∧ Aside0 (w'.heap[gb629]? = some (.cells #[.int .i64 t620,.int .i64 t621,(.slice Ao36 t622.length co36)] 26 (0,0))) ∧ Aside0 (w'.heap[gb653]? = some (.cells #[.int .i64 t643,.int .i64 t644,(.slice Ao82 t645.length co82)] 26 (0,0))) ∧ Aside0 (Below w.heap.size w w'))
              case atStart => exact ⟨(0),qq260,H',⟨Nat.le_refl _⟩,⟨by (with_reducible repeat (first | apply kA | apply kN | apply kD));exact Kd.R_mono HO661.out (fun _ hk => ⟨hk.1.1.1.1,⟨hk.2,⟨hk.1.1.1.2,⟨hk.1.1.2,hk.1.2⟩⟩⟩⟩)⟩,⟨by (with_reducible repeat (first | apply kA | apply kN | apply kD));exact Kd.R_mono HO663.out (fun _ hk => ⟨hk.1.1.1.1,⟨hk.2,⟨hk.1.1.1.2,⟨hk.1.1.2,hk.1.2⟩⟩⟩⟩)⟩,⟨by (with_reducible repeat (first | apply kA | apply kN | apply kD));exact Kd.R_mono HO666.out (fun _ hk => ⟨hk.1.2,⟨hk.2,⟨hk.1.1.1.1.2,⟨hk.1.1.1.2,hk.1.1.2⟩⟩⟩⟩)⟩,⟨by (with_reducible repeat (first | apply Kd.Q_alloc | apply Kd.Q_drewN | apply Kd.Q_drew));exact Kd.Q_mono HO_615002.out (fun _ hk => ⟨hk.1.1.2,⟨hk.1.2,⟨hk.2,⟨hk.1.1.1.1,hk.1.1.1.2⟩⟩⟩⟩)⟩,⟨by (with_reducible repeat (first | apply Kd.Q_alloc | apply Kd.Q_drewN | apply Kd.Q_drew));exact Kd.Q_mono HO_630002.out (fun _ hk => ⟨hk.1.1.2,⟨hk.1.2,⟨hk.2,⟨hk.1.1.1.1,hk.1.1.1.2⟩⟩⟩⟩)⟩,⟨by (with_reducible repeat (first | apply Kd.Q_alloc | apply Kd.Q_drewN | apply Kd.Q_drew));exact Kd.Q_mono HO_654002.out (fun _ hk => ⟨hk.1.1.2,⟨hk.1.2,⟨hk.2,⟨hk.1.1.1.1,hk.1.1.1.2⟩⟩⟩⟩)⟩,⟨qq180⟩,⟨qq179⟩,⟨qq178⟩,⟨qq56⟩⟩
              case round =>
               clear H'
               try clear c1
               try clear p2
               try clear c5
               try clear p6
               try clear q6
               try clear hx6
               try clear c7
               try clear c8
               try clear c9
               try clear c11
               try clear c12
               try clear c13
               try clear c14
               try clear c50
               try clear c50b0
               try clear c51
               try clear c53
               try clear c54
               try clear c54b0
               try clear c56
               try clear c57
               try clear p63
               try clear q63
               try clear hx63
               try clear p64
               try clear c79
               try clear c80
               try clear c85
               try clear c85b0
               try clear c86
               try clear c86b0
               try clear c88
               try clear c90
               try clear c91
               try clear c94
               try clear hcz81_0
               try clear hcz81_1
               try clear hcz81_2
               try clear hcz92_0
               try clear hcz92_1
               try clear hcz92_2
               try clear hfz81_0
               try clear hfz81_1
               try clear hfz81_2
               try clear hfz92_0
               try clear hfz92_1
               try clear hfz92_2
               try clear hx637_0
               try clear p2
               try clear p6
               try clear p63
               try clear p637
               try clear p64
               try clear q6
               try clear q63
               try clear q637
               obtain ⟨x24_5,rfl,HA,HK5,HO_21,HO_22,HO_23,HO_615002,HO_630002,HO_654002,BK614,BK629,BK653,HB⟩:=hrel
               cases gk with
               | zero => exact absurd HA.out (by simp [laws_FnSearch.l3])
               | succ k5 =>
                have H:=HA.out;clear HA;simp only [laws_FnSearch.l3] at H
                by_cases c101 : x24_5 < (t658.length : Int)
                ·rw [if_pos c101] at H;have c101b0 : decide (x24_5 < (t658.length : Int)) = true:=decide_eq_true c101;clear c101
                 by_cases c102 : 0 ≤ x24_5
                 ·rw [if_pos c102] at H;have c102b0 : decide (0 ≤ x24_5) = true:=decide_eq_true c102;clear c102;replace H:=bS.mp H;obtain ⟨t668,A1030,H⟩:=H;replace H : ((impl_IsFound.f k5 t658 t659 (rd t658 x24_5)).bind fun t670 => (if (t668 == t670) = true then (some false) else (laws_FnSearch.l3 k5 t658 t659 t664 (wrap64 (x24_5 + 1))))) = some r:=H;have A103:=am A1030;clear A1030;replace H:=bS.mp H;obtain ⟨t670,A1040,H⟩:=H;replace H : (if (t668 == t670) = true then (some false) else (laws_FnSearch.l3 k5 t658 t659 t664 (wrap64 (x24_5 + 1)))) = some r:=H;have A104:=am A1040;clear A1040
                  by_cases c105 : (t668 == t670) = true
                  ·rw [if_pos c105] at H;have c105b0 : (t668 == t670) = true:=c105;(try (have c105b1 : decide (t668 = t670) = true:=by simpa using c105));(try (have c105b2 : (t668 == t670) = true:=by simpa using c105));clear c105;obtain rfl:=Option.some.inj H
                   try go_wp2
                   replace HO_21:=am (Kd.R_drew HO_21.out);replace HO_22:=am (Kd.R_drew HO_22.out);replace HO_23:=am (Kd.R_drew HO_23.out);replace HO_615002:=am qq355;replace HO_630002:=am qq356;replace HO_654002:=am (Kd.Q_drew HO_654002.out);replace BK614:=am qq376;replace BK629:=am qq377;replace BK653:=am (blk_drew BK653.out);replace HB:=am qq374;have p667 : 0 ≤ (x24_5 : Int):=odt qq258;have q667 : x24_5 < (t658.length : Int):=odt qq258;obtain ⟨ad667,e667,hx667_0⟩:=Kd.at_int (Kd.R_reads' HO_21.out).2.2 x24_5 p667 q667
                   cases e667
                   replace p667:=eq_true p667;replace q667:=eq_true q667;have p669 : 0 ≤ (x24_5 : Int):=odt qq258;have q669 : x24_5 < (t658.length : Int):=odt qq258;obtain ⟨ad669,e669,hx669_0⟩:=Kd.at_int (Kd.R_reads' HO_21.out).2.2 x24_5 p669 q669;obtain rfl : ad667 = ad669:=(by injection e669)
                   replace p669:=eq_true p669;replace q669:=eq_true q669;obtain ⟨Ao107,co107,eo107⟩:=Kd.R_slice HO_23.out;(first | subst eo107 | (injection eo107 with f1_ f2_ f3_;have f4_:=f1_.symm;have f5_:=f3_.symm;clear f1_ f2_ f3_;subst f4_;subst f5_));refine start_ (n:=14) (S:=fun w' => w'.cell? (ad667.add (x24_5).toNat) = some (.int .i64 (rd t658 x24_5)) ∧ w'.cell? (ad667.add (x24_5).toNat) = some (.int .i64 (rd t658 x24_5))) (ds:=[]) #[Z,Z,Z,Z,Z,Z,Z,Z,Z,Z,Z,Z,Z,Z] (by kernel_rfl) rfl rfl ⟨hx667_0,hx669_0⟩ (fun hHeld => ?_);refine with_tabW laws_FnSearch.tab32 laws_FnSearch.bits32 (fun HT_ HW_ => ?_)
                   generalize wr.drew = w106 at HO_21 HO_22 HO_23 HO_615002 HO_630002 HO_654002 BK614 BK629 BK653 HB hx667_0 hx669_0 hHeld ⊢
                   refine pV (i:=0) (N:=some 177) #[Y,Z,Z,Z,Z,Z,Z,Z,Z,Z,Z,Z,Z,Z] rfl rfl qT ?_
                   refine pV (i:=1) (N:=some 178) #[Y,Y,Z,Z,Z,Z,Z,Z,Z,Z,Z,Z,Z,Z] rfl rfl qT ?_
                   refine pV (i:=2) (N:=some 179) #[Y,Y,Y,Z,Z,Z,Z,Z,Z,Z,Z,Z,Z,Z] rfl rfl qT ?_
                   refine pV (i:=3) (N:=some 180) #[Y,Y,Y,Y,Z,Z,Z,Z,Z,Z,Z,Z,Z,Z] rfl rfl qT ?_
                   refine pV (i:=6) (N:=some 183) #[Y,Y,Y,Y,Z,Z,Y,Z,Z,Z,Z,Z,Z,Z] rfl rfl qT ?_
                   refine pV (i:=7) (N:=some 184) #[Y,Y,Y,Y,Z,Z,Y,Y,Z,Z,Z,Z,Z,Z] rfl rfl qT ?_
                   refine pV (i:=8) (N:=some 185) #[Y,Y,Y,Y,Z,Z,Y,Y,Y,Z,Z,Z,Z,Z] rfl rfl qT ?_
                   refine pV (i:=9) (N:=some 186) #[Y,Y,Y,Y,Z,Z,Y,Y,Y,Y,Z,Z,Z,Z] rfl rfl qT ?_
                   refine pV (i:=10) (N:=some 187) #[Y,Y,Y,Y,Z,Z,Y,Y,Y,Y,Y,Z,Z,Z] rfl rfl qT ?_
                   refine tV2 (i:=4) (N:=some 181) #[Y,Y,Y,Y,Y,Z,Y,Y,Y,Y,Y,Z,Z,Z] rfl rfl (take_ofW HT_.out HW_.out (by kernel_rfl)) hHeld ?_
                   refine tV2 (i:=11) (N:=some 188) #[Y,Y,Y,Y,Y,Z,Y,Y,Y,Y,Y,Y,Z,Z] rfl rfl (take_ofW HT_.out HW_.out (by kernel_rfl)) hHeld ?_
                   refine one_ (i:=5) (N:=some 182) #[Y,Y,Y,Y,Y,Y,Y,Y,Y,Y,Y,Y,Z,Z] rfl rfl (one_of HT_.out (by kernel_rfl)) (by decide) (fun K hK => ?_);refine goes_ Try.func8 (by kernel_rfl) rfl #[.slice Ao107 t664.length co107,.int .i64 (rd t658 x24_5)] (by rfl) rfl rfl qq139 ?_;with_reducible refine (laws_contains.calls k5 _ _ t664 (rd t658 x24_5) t668 _ ?side1 ?side2 A103.out).mono ?_
                   (case side1 => exact qq86);(case side2 => exact (Kd.R_reads' HO_23.out).2.1)
                   rintro e w' ⟨rfl,⟨nd,rfl⟩⟩
                   refine ⟨_,rfl,?_⟩;refine hK.out _ _ ⟨hHeld.1,hHeld.2⟩ (fun hHeld => ?_);clear hK K;refine norm_ (a':=?_) ?_ ?_;rotate_left
                   ·show Act.put _ (some 182) _ = _
                    simp only [Act.put,sA,s0,s1,i64_w,i32_w];rfl
                   refine one_ (i:=12) (N:=some 189) #[Y,Y,Y,Y,Y,Y,Y,Y,Y,Y,Y,Y,Y,Z] rfl rfl (one_of HT_.out (by kernel_rfl)) (by decide) (fun K hK => ?_);refine goes_ Try.func15 (by kernel_rfl) rfl #[.slice (some ad667) t658.length co98,.slice Ao99 t659.length co99,.int .i64 (rd t658 x24_5)] (by rfl) rfl rfl qq139 ?_;with_reducible refine (impl_IsFound.calls k5 _ _ t658 _ _ t659 (rd t658 x24_5) t670 _ ?side1 ?side2 ?side3 ?side4 A104.out).mono ?_
                   (case side1 => exact qq88);(case side2 => exact (Kd.R_reads' HO_21.out).2.1);(case side3 => exact qq87);(case side4 => exact (Kd.R_reads' HO_22.out).2.1)
                   rintro e w' ⟨rfl,⟨nd,rfl⟩⟩
                   refine ⟨_,rfl,?_⟩;refine hK.out _ _ ⟨hHeld.1,hHeld.2⟩ (fun hHeld => ?_);clear hK K;refine norm_ (a':=?_) ?_ ?_;rotate_left
                   ·show Act.put _ (some 189) _ = _
                    simp only [Act.put,sA,s0,s1,i64_w,i32_w];rfl
                   refine pV (i:=13) (N:=some 190) #[Y,Y,Y,Y,Y,Y,Y,Y,Y,Y,Y,Y,Y,Y] rfl rfl qT ?_
                   refine done_ (done_of HT_.out (by kernel_rfl)) ?_
                   try go_wp2
                   go_ret
                   exact ⟨qq216,qq56⟩
                  ·rw [if_neg c105] at H;have c105b0 : (t668 == t670) = false:=by simpa using c105
                   (try (have c105b1 : decide (t668 = t670) = false:=by simpa using c105));(try (have c105b2 : (t668 == t670) = false:=by simpa using c105));(try (have c105b3 : ¬ (t668 = t670):=by simpa using c105));clear c105;have H':=am H;clear H
                   try go_wp2
                   replace HO_21:=am (Kd.R_drew HO_21.out);replace HO_22:=am (Kd.R_drew HO_22.out);replace HO_23:=am (Kd.R_drew HO_23.out);replace HO_615002:=am qq355;replace HO_630002:=am qq356;replace HO_654002:=am (Kd.Q_drew HO_654002.out);replace BK614:=am qq376;replace BK629:=am qq377;replace BK653:=am (blk_drew BK653.out);replace HB:=am qq374;have p667 : 0 ≤ (x24_5 : Int):=odt qq258;have q667 : x24_5 < (t658.length : Int):=odt qq258;obtain ⟨ad667,e667,hx667_0⟩:=Kd.at_int (Kd.R_reads' HO_21.out).2.2 x24_5 p667 q667
                   cases e667
                   replace p667:=eq_true p667;replace q667:=eq_true q667;have p669 : 0 ≤ (x24_5 : Int):=odt qq258;have q669 : x24_5 < (t658.length : Int):=odt qq258;obtain ⟨ad669,e669,hx669_0⟩:=Kd.at_int (Kd.R_reads' HO_21.out).2.2 x24_5 p669 q669;obtain rfl : ad667 = ad669:=(by injection e669)
                   replace p669:=eq_true p669;replace q669:=eq_true q669;obtain ⟨Ao109,co109,eo109⟩:=Kd.R_slice HO_23.out;(first | subst eo109 | (injection eo109 with f1_ f2_ f3_;have f4_:=f1_.symm;have f5_:=f3_.symm;clear f1_ f2_ f3_;subst f4_;subst f5_));refine start_ (n:=14) (S:=fun w' => w'.cell? (ad667.add (x24_5).toNat) = some (.int .i64 (rd t658 x24_5)) ∧ w'.cell? (ad667.add (x24_5).toNat) = some (.int .i64 (rd t658 x24_5))) (ds:=[]) #[Z,Z,Z,Z,Z,Z,Z,Z,Z,Z,Z,Z,Z,Z] (by kernel_rfl) rfl rfl ⟨hx667_0,hx669_0⟩ (fun hHeld => ?_);refine with_tabW laws_FnSearch.tab32 laws_FnSearch.bits32 (fun HT_ HW_ => ?_)
                   generalize wr.drew = w108 at HO_21 HO_22 HO_23 HO_615002 HO_630002 HO_654002 BK614 BK629 BK653 HB hx667_0 hx669_0 hHeld ⊢
                   refine pV (i:=0) (N:=some 177) #[Y,Z,Z,Z,Z,Z,Z,Z,Z,Z,Z,Z,Z,Z] rfl rfl qT ?_
                   refine pV (i:=1) (N:=some 178) #[Y,Y,Z,Z,Z,Z,Z,Z,Z,Z,Z,Z,Z,Z] rfl rfl qT ?_
                   refine pV (i:=2) (N:=some 179) #[Y,Y,Y,Z,Z,Z,Z,Z,Z,Z,Z,Z,Z,Z] rfl rfl qT ?_
                   refine pV (i:=3) (N:=some 180) #[Y,Y,Y,Y,Z,Z,Z,Z,Z,Z,Z,Z,Z,Z] rfl rfl qT ?_
                   refine pV (i:=6) (N:=some 183) #[Y,Y,Y,Y,Z,Z,Y,Z,Z,Z,Z,Z,Z,Z] rfl rfl qT ?_
                   refine pV (i:=7) (N:=some 184) #[Y,Y,Y,Y,Z,Z,Y,Y,Z,Z,Z,Z,Z,Z] rfl rfl qT ?_
                   refine pV (i:=8) (N:=some 185) #[Y,Y,Y,Y,Z,Z,Y,Y,Y,Z,Z,Z,Z,Z] rfl rfl qT ?_
                   refine pV (i:=9) (N:=some 186) #[Y,Y,Y,Y,Z,Z,Y,Y,Y,Y,Z,Z,Z,Z] rfl rfl qT ?_
                   refine pV (i:=10) (N:=some 187) #[Y,Y,Y,Y,Z,Z,Y,Y,Y,Y,Y,Z,Z,Z] rfl rfl qT ?_
                   refine tV2 (i:=4) (N:=some 181) #[Y,Y,Y,Y,Y,Z,Y,Y,Y,Y,Y,Z,Z,Z] rfl rfl (take_ofW HT_.out HW_.out (by kernel_rfl)) hHeld ?_
                   refine tV2 (i:=11) (N:=some 188) #[Y,Y,Y,Y,Y,Z,Y,Y,Y,Y,Y,Y,Z,Z] rfl rfl (take_ofW HT_.out HW_.out (by kernel_rfl)) hHeld ?_
                   refine one_ (i:=5) (N:=some 182) #[Y,Y,Y,Y,Y,Y,Y,Y,Y,Y,Y,Y,Z,Z] rfl rfl (one_of HT_.out (by kernel_rfl)) (by decide) (fun K hK => ?_);refine goes_ Try.func8 (by kernel_rfl) rfl #[.slice Ao109 t664.length co109,.int .i64 (rd t658 x24_5)] (by rfl) rfl rfl qq139 ?_;with_reducible refine (laws_contains.calls k5 _ _ t664 (rd t658 x24_5) t668 _ ?side1 ?side2 A103.out).mono ?_
                   (case side1 => exact qq86);(case side2 => exact (Kd.R_reads' HO_23.out).2.1)
                   rintro e w' ⟨rfl,⟨nd,rfl⟩⟩
                   refine ⟨_,rfl,?_⟩;refine hK.out _ _ ⟨hHeld.1,hHeld.2⟩ (fun hHeld => ?_);clear hK K;refine norm_ (a':=?_) ?_ ?_;rotate_left
                   ·show Act.put _ (some 182) _ = _
                    simp only [Act.put,sA,s0,s1,i64_w,i32_w];rfl
                   refine one_ (i:=12) (N:=some 189) #[Y,Y,Y,Y,Y,Y,Y,Y,Y,Y,Y,Y,Y,Z] rfl rfl (one_of HT_.out (by kernel_rfl)) (by decide) (fun K hK => ?_);refine goes_ Try.func15 (by kernel_rfl) rfl #[.slice (some ad667) t658.length co98,.slice Ao99 t659.length co99,.int .i64 (rd t658 x24_5)] (by rfl) rfl rfl qq139 ?_;with_reducible refine (impl_IsFound.calls k5 _ _ t658 _ _ t659 (rd t658 x24_5) t670 _ ?side1 ?side2 ?side3 ?side4 A104.out).mono ?_
                   (case side1 => exact qq88);(case side2 => exact (Kd.R_reads' HO_21.out).2.1);(case side3 => exact qq87);(case side4 => exact (Kd.R_reads' HO_22.out).2.1)
                   rintro e w' ⟨rfl,⟨nd,rfl⟩⟩
                   refine ⟨_,rfl,?_⟩;refine hK.out _ _ ⟨hHeld.1,hHeld.2⟩ (fun hHeld => ?_);clear hK K;refine norm_ (a':=?_) ?_ ?_;rotate_left
                   ·show Act.put _ (some 189) _ = _
                    simp only [Act.put,sA,s0,s1,i64_w,i32_w];rfl
                   refine pV (i:=13) (N:=some 190) #[Y,Y,Y,Y,Y,Y,Y,Y,Y,Y,Y,Y,Y,Y] rfl rfl qT ?_
                   refine done_ (done_of HT_.out (by kernel_rfl)) ?_
                   try go_wp2
                   go_roundg k5
                   case measure => have:=HK1.out;have:=HK2.out;have:=HK3.out;have:=HJ74.out;have:=HK5.out;omega
                   case rel => exact ⟨(wrap64 (x24_5 + 1)),qq260,H',⟨by have:=HK1.out;have:=HK2.out;have:=HK3.out;have:=HJ74.out;have:=HK5.out;omega⟩,⟨by (with_reducible repeat (first | apply kA | apply kN | apply kD));exact HO_21.out⟩,⟨by (with_reducible repeat (first | apply kA | apply kN | apply kD));exact HO_22.out⟩,⟨by (with_reducible repeat (first | apply kA | apply kN | apply kD));exact HO_23.out⟩,⟨qq164⟩,⟨qq163⟩,⟨qq162⟩,⟨qq180⟩,⟨qq179⟩,⟨qq178⟩,⟨qq56⟩⟩
                 ·rw [if_neg c102] at H;exact absurd H (by simp)
                ·rw [if_neg c101] at H;have c101b0 : decide (x24_5 < (t658.length : Int)) = false:=decide_eq_false c101;clear c101;obtain rfl:=Option.some.inj H;obtain ⟨Ao110,co110,eo110⟩:=Kd.R_slice HO_23.out;subst eo110;go_wp2
                 go_ret
                 exact ⟨qq216,qq56⟩

/-- THE ONE PURE STATEMENT of laws_FnSearch: yours. -/
def laws_FnSearch.Pure : Prop := ∀ (l0 : List Int), l0.length ≤ maxLen → l0.length * 1 ≤ 140737488351232 → (∀ x ∈ l0, (Lit.int .u8 x).wf = true) → ∃ k, laws_FnSearch.f k l0 = some true
theorem laws_FnSearch.walk (P : laws_FnSearch.Pure) (a0 : Option Addr) (len0 cap0 : Nat) (z0 : List Int) (w : World) (w0 : (a0 = none ∧ len0 = 0 ∧ cap0 = 0 ∧ z0 = []) ∨ ∃ x, a0 = some x ∧ len0 ≤ cap0 ∧ cap0 ≤ maxLen ∧ z0.length = cap0 ∧ (∀ i, i < z0.length → w.cell? (x.add i) = some (.int .u8 (z0.getD i 0))) ∧ ∀ n ∈ z0, (Lit.int .u8 n).wf = true) (y0 : len0 * 1 ≤ 140737488351232) :
  Calls Try.prog 3 #[.slice a0 len0 cap0] w fun e w' => e = .returned (.bool true) ∧ Below w.heap.size w w':=by
 obtain ⟨l0,rfl,hr0,hm0,hw0,hc0⟩:=ReadsInt.ofRowC w0
 obtain ⟨k,h⟩:=P l0 hm0 y0 hw0
 refine (laws_FnSearch.calls k _ _ l0 true w (Kd.C_of_reads (d:=(0 : Int)) (h1:=fun _ => rfl) hr0) hc0 h).mono ?_
 rintro e w' ⟨rfl,hd⟩
 exact ⟨rfl,hd⟩

end Go.Proofs.Ytimpjccgnkbgmaa.PFnSearch
