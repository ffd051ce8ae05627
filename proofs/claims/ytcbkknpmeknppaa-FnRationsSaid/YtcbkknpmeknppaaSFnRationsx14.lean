/- Contracts of functions that the law FnRations reaches, for its row: lines that the kit's printer wrote for this claim, set shorter by a program of this session (own.py), and what fell in Lean proved anew. Lean checks them. -/
import Derived.Test.YtcbkknpmeknppaaSFnRationsx0
import Derived.Test.YtcbkknpmeknppaaSFnRationsx1
import Derived.Test.YtcbkknpmeknppaaSFnRationsx10
import Derived.Test.YtcbkknpmeknppaaSFnRationsx12
import Derived.Test.YtcbkknpmeknppaaSFnRationsx13
namespace Go.Proofs.Ytcbkknpmeknppaa.PFnRations
open Go.RowKit Go.Proofs.YtcbkknpmeknppaaW.PrintWords Go.Proofs.YtcbkknpmeknppaaW.PrintLast Go.Proofs.YtcbkknpmeknppaaW.PrintMore
attribute [local go_sem] max2_int min2_int max_two min_two max_three min_three max_four min_four   -- for this text's walks alone
set_option linter.unusedVariables false
set_option linter.unusedSimpArgs false

abbrev m0_14 : Array Bool := #[Z,Z,Z,Z,Z,Z,Z,Z,Z,Z,Z,Z,Z,Z,Z,Z,Z,Z,Z,Z,Z,Z,Z,Z,Z]
abbrev m1_14 : Array Bool := #[Y,Z,Z,Z,Z,Z,Z,Z,Z,Z,Z,Z,Z,Z,Z,Z,Z,Z,Z,Z,Z,Z,Z,Z,Z]
abbrev m2_14 : Array Bool := #[Y,Y,Z,Z,Z,Z,Z,Z,Z,Z,Z,Z,Z,Z,Z,Z,Z,Z,Z,Z,Z,Z,Z,Z,Z]
abbrev m3_14 : Array Bool := #[Y,Y,Y,Z,Z,Z,Z,Z,Z,Z,Z,Z,Z,Z,Z,Z,Z,Z,Z,Z,Z,Z,Z,Z,Z]
abbrev m4_14 : Array Bool := #[Y,Y,Y,Y,Z,Z,Z,Z,Z,Z,Z,Z,Z,Z,Z,Z,Z,Z,Z,Z,Z,Z,Z,Z,Z]
abbrev m5_14 : Array Bool := #[Y,Y,Y,Y,Y,Z,Z,Z,Z,Z,Z,Z,Z,Z,Z,Z,Z,Z,Z,Z,Z,Z,Z,Z,Z]
abbrev m6_14 : Array Bool := #[Y,Y,Y,Y,Y,Y,Z,Z,Z,Z,Z,Z,Z,Z,Z,Z,Z,Z,Z,Z,Z,Z,Z,Z,Z]
abbrev m7_14 : Array Bool := #[Y,Y,Y,Y,Y,Y,Y,Z,Z,Z,Z,Z,Z,Z,Z,Z,Z,Z,Z,Z,Z,Z,Z,Z,Z]
abbrev m8_14 : Array Bool := #[Y,Y,Y,Y,Y,Y,Y,Y,Z,Z,Z,Z,Z,Z,Z,Z,Z,Z,Z,Z,Z,Z,Z,Z,Z]
abbrev m9_14 : Array Bool := #[Y,Y,Y,Y,Y,Y,Y,Y,Y,Z,Z,Z,Z,Z,Z,Z,Z,Z,Z,Z,Z,Z,Z,Z,Z]
abbrev m10_14 : Array Bool := #[Y,Y,Y,Y,Y,Y,Y,Y,Y,Y,Z,Z,Z,Z,Z,Z,Z,Z,Z,Z,Z,Z,Z,Z,Z]
abbrev m11_14 : Array Bool := #[Y,Y,Y,Y,Y,Y,Y,Y,Y,Y,Y,Z,Z,Z,Z,Z,Z,Z,Z,Z,Z,Z,Z,Z,Z]
abbrev m12_14 : Array Bool := #[Y,Y,Y,Y,Y,Y,Y,Y,Y,Y,Y,Y,Z,Z,Z,Z,Z,Z,Z,Z,Z,Z,Z,Z,Z]
abbrev m13_14 : Array Bool := #[Y,Y,Y,Y,Y,Y,Y,Y,Y,Y,Y,Y,Y,Z,Z,Z,Z,Z,Z,Z,Z,Z,Z,Z,Z]
abbrev m14_14 : Array Bool := #[Y,Y,Y,Y,Y,Y,Y,Y,Y,Y,Y,Y,Y,Y,Z,Z,Z,Z,Z,Z,Z,Z,Z,Z,Z]
abbrev m15_14 : Array Bool := #[Y,Y,Y,Y,Y,Y,Y,Y,Y,Y,Y,Y,Y,Y,Y,Z,Z,Z,Z,Z,Z,Z,Z,Z,Z]
abbrev m16_14 : Array Bool := #[Y,Y,Y,Y,Y,Y,Y,Y,Y,Y,Y,Y,Y,Y,Y,Y,Z,Z,Z,Z,Z,Z,Z,Z,Z]
abbrev m17_14 : Array Bool := #[Y,Y,Y,Y,Y,Y,Y,Y,Y,Y,Y,Y,Y,Y,Y,Y,Y,Z,Z,Z,Z,Z,Z,Z,Z]
abbrev m18_14 : Array Bool := #[Y,Y,Y,Y,Y,Y,Y,Y,Y,Y,Y,Y,Y,Y,Y,Y,Y,Y,Z,Z,Z,Z,Z,Z,Z]
abbrev m19_14 : Array Bool := #[Y,Y,Y,Y,Y,Y,Y,Y,Y,Y,Y,Y,Y,Y,Y,Y,Y,Y,Y,Z,Z,Z,Z,Z,Z]
abbrev m20_14 : Array Bool := #[Y,Y,Y,Y,Y,Y,Y,Y,Y,Y,Y,Y,Y,Y,Y,Y,Y,Y,Y,Y,Z,Z,Z,Z,Z]
abbrev m21_14 : Array Bool := #[Y,Y,Y,Y,Y,Y,Y,Y,Y,Y,Y,Y,Y,Y,Y,Y,Y,Y,Y,Y,Y,Z,Z,Z,Z]
abbrev m22_14 : Array Bool := #[Y,Y,Y,Y,Y,Y,Y,Y,Y,Y,Y,Y,Y,Y,Y,Y,Y,Y,Y,Y,Y,Y,Z,Z,Z]
abbrev m23_14 : Array Bool := #[Y,Y,Y,Y,Y,Y,Y,Y,Y,Y,Y,Y,Y,Y,Y,Y,Y,Y,Y,Y,Y,Y,Y,Z,Z]
abbrev m24_14 : Array Bool := #[Y,Y,Y,Y,Y,Y,Y,Y,Y,Y,Y,Y,Y,Y,Y,Y,Y,Y,Y,Y,Y,Y,Y,Y,Z]
abbrev m25_14 : Array Bool := #[Y,Y,Y,Y,Y,Y,Y,Y,Y,Y,Y,Y,Y,Y,Y,Y,Y,Y,Y,Y,Y,Y,Y,Y,Y]
/-! ### laws_FnRations: function 3 -/
mutual
def laws_FnRations.j0 : Nat → List Int → Bool → Option (Bool)
 | 0,_,_ => none
 | k + 1,x0,x46 => if x46 = true then (some false) else ((spec_DrawLevelFor.f k x0).bind fun bt529 => ((impl_LastsDays.f k bt529.1 bt529.2.1 bt529.2.2.1 bt529.2.2.2.1 0).bind fun t539 => ((impl_LastsDays.f k bt529.1 bt529.2.1 bt529.2.2.1 bt529.2.2.2.1 1).bind fun t540 => (if t539 > t540 then (laws_FnRations.j1 k x0 bt529.2.2.2.2 true bt529.1 bt529.2.1 bt529.2.2.1 bt529.2.2.2.1) else ((impl_LastsDays.f k bt529.1 bt529.2.1 bt529.2.2.1 bt529.2.2.2.1 1).bind fun t541 => ((impl_LastsDays.f k bt529.1 bt529.2.1 bt529.2.2.1 bt529.2.2.2.1 2).bind fun t542 => (laws_FnRations.j1 k x0 bt529.2.2.2.2 (decide (t541 > t542)) bt529.1 bt529.2.1 bt529.2.2.1 bt529.2.2.2.1)))))))
def laws_FnRations.j1 : Nat → List Int → Int → Bool → Int → Int → List (S112) → List Bool → Option (Bool)
 | 0,_,_,_,_,_,_,_ => none
 | k + 1,x0,x7,x63,x539000,x539001,x539002,x539003 => if x63 = true then (some false) else ((impl_LevelFor.f k x539000 x539001 x539002 x539003 x7).bind fun t543 => (if t543 ≥ 0 then ((impl_LastsDays.f k x539000 x539001 x539002 x539003 t543).bind fun t544 => (if t544 < x7 then (laws_FnRations.j2 k x0 true) else (if t543 > 0 then ((impl_LastsDays.f k x539000 x539001 x539002 x539003 (wrap64 (t543 - 1))).bind fun t545 => (laws_FnRations.j2 k x0 (decide (t545 ≥ x7)))) else (laws_FnRations.j2 k x0 false)))) else (laws_FnRations.j2 k x0 false)))
def laws_FnRations.j2 : Nat → List Int → Bool → Option (Bool)
 | 0,_,_ => none
 | k + 1,x0,x87 => if x87 = true then (some false) else ((spec_DrawNeedAt.f k x0).bind fun bt546 => ((impl_NeedAt.f k bt546.1 bt546.2).bind fun t550 => (if t550 ≥ 0 then ((impl_NeedOf.f k bt546.1).bind fun t551 => (if t550 ≤ t551 then ((impl_LevelName.f bt546.2).bind fun t552 => (if bt546.2 < 0 then (some ((t552.toList == ([] : List UInt8)) == true)) else (some ((t552.toList == ([] : List UInt8)) == (decide (bt546.2 > 2)))))) else (some false))) else (some false))))
end
def laws_FnRations.f (k : Nat) (l0 : List Int) : Option (Bool) := (laws_big.f l0).bind fun t515 => (if t515 = true then (some true) else ((spec_DrawMixedDays.f k l0).bind fun bt516 => ((impl_MixedDays.f k bt516.1 bt516.2.1 bt516.2.2.1 bt516.2.2.2.1 bt516.2.2.2.2).bind fun t526 => (if t526 > bt516.2.2.2.2 then (laws_FnRations.j0 k l0 true) else (if t526 ≥ 0 then ((impl_NeedAt.f k bt516.2.2.1 0).bind fun t527 => ((impl_NeedAt.f k bt516.2.2.1 1).bind fun t528 => (laws_FnRations.j0 k l0 (decide ((wrap64 ((wrap64 (t526 * t527)) + (wrap64 ((wrap64 (bt516.2.2.2.2 - t526)) * t528)))) > bt516.2.1))))) else (laws_FnRations.j0 k l0 false))))))
theorem laws_FnRations.mono_l : ∀ k, (∀ y0 y1, LeO (laws_FnRations.j0 k y0 y1) (laws_FnRations.j0 (k + 1) y0 y1)) ∧ (∀ y0 y1 y2 y3 y4 y5 y6, LeO (laws_FnRations.j1 k y0 y1 y2 y3 y4 y5 y6) (laws_FnRations.j1 (k + 1) y0 y1 y2 y3 y4 y5 y6)) ∧ (∀ y0 y1, LeO (laws_FnRations.j2 k y0 y1) (laws_FnRations.j2 (k + 1) y0 y1))
 | 0 => ⟨fun _ _ r h => by simp [laws_FnRations.j0] at h,fun _ _ _ _ _ _ _ r h => by simp [laws_FnRations.j1] at h,fun _ _ r h => by simp [laws_FnRations.j2] at h⟩
 | k + 1 => by
  obtain ⟨ih0,ih1,ih2⟩:=laws_FnRations.mono_l k
  refine ⟨?_,?_,?_⟩
  ·intro y0 y1
   unfold laws_FnRations.j0
   repeat' first
   | (with_reducible exact ih0 _ _)
   | (with_reducible exact ih1 _ _ _ _ _ _ _)
   | (with_reducible exact ih2 _ _)
   | (with_reducible exact impl_LastsDays.mono _ _ _ _ _ _)
   | (with_reducible exact impl_LevelFor.mono _ _ _ _ _ _)
   | (with_reducible exact impl_MixedDays.mono _ _ _ _ _ _)
   | (with_reducible exact impl_NeedAt.mono _ _ _)
   | (with_reducible exact impl_NeedOf.mono _ _)
   | (with_reducible exact spec_DrawLevelFor.mono _ _)
   | (with_reducible exact spec_DrawMixedDays.mono _ _)
   | (with_reducible exact spec_DrawNeedAt.mono _ _)
   | (with_reducible exact LeO.refl _)
   | (with_reducible exact LeO.none _)
   | (with_reducible refine LeO.ite ?_ ?_)
   | (with_reducible refine LeO.bind ?_ (fun _ => ?_))
   | exact ih0 _ _
   | exact ih1 _ _ _ _ _ _ _
   | exact ih2 _ _
   | exact impl_LastsDays.mono _ _ _ _ _ _
   | exact impl_LevelFor.mono _ _ _ _ _ _
   | exact impl_MixedDays.mono _ _ _ _ _ _
   | exact impl_NeedAt.mono _ _ _
   | exact impl_NeedOf.mono _ _
   | exact spec_DrawLevelFor.mono _ _
   | exact spec_DrawMixedDays.mono _ _
   | exact spec_DrawNeedAt.mono _ _
   | exact LeO.none _
   | refine LeO.ite ?_ ?_
   | refine LeO.bind ?_ (fun _ => ?_)
  ·intro y0 y1 y2 y3 y4 y5 y6
   unfold laws_FnRations.j1
   repeat' first
   | (with_reducible exact ih0 _ _)
   | (with_reducible exact ih1 _ _ _ _ _ _ _)
   | (with_reducible exact ih2 _ _)
   | (with_reducible exact impl_LastsDays.mono _ _ _ _ _ _)
   | (with_reducible exact impl_LevelFor.mono _ _ _ _ _ _)
   | (with_reducible exact impl_MixedDays.mono _ _ _ _ _ _)
   | (with_reducible exact impl_NeedAt.mono _ _ _)
   | (with_reducible exact impl_NeedOf.mono _ _)
   | (with_reducible exact spec_DrawLevelFor.mono _ _)
   | (with_reducible exact spec_DrawMixedDays.mono _ _)
   | (with_reducible exact spec_DrawNeedAt.mono _ _)
   | (with_reducible exact LeO.refl _)
   | (with_reducible exact LeO.none _)
   | (with_reducible refine LeO.ite ?_ ?_)
   | (with_reducible refine LeO.bind ?_ (fun _ => ?_))
   | exact ih0 _ _
   | exact ih1 _ _ _ _ _ _ _
   | exact ih2 _ _
   | exact impl_LastsDays.mono _ _ _ _ _ _
   | exact impl_LevelFor.mono _ _ _ _ _ _
   | exact impl_MixedDays.mono _ _ _ _ _ _
   | exact impl_NeedAt.mono _ _ _
   | exact impl_NeedOf.mono _ _
   | exact spec_DrawLevelFor.mono _ _
   | exact spec_DrawMixedDays.mono _ _
   | exact spec_DrawNeedAt.mono _ _
   | exact LeO.none _
   | refine LeO.ite ?_ ?_
   | refine LeO.bind ?_ (fun _ => ?_)
  ·intro y0 y1
   unfold laws_FnRations.j2
   repeat' first
   | (with_reducible exact ih0 _ _)
   | (with_reducible exact ih1 _ _ _ _ _ _ _)
   | (with_reducible exact ih2 _ _)
   | (with_reducible exact impl_LastsDays.mono _ _ _ _ _ _)
   | (with_reducible exact impl_LevelFor.mono _ _ _ _ _ _)
   | (with_reducible exact impl_MixedDays.mono _ _ _ _ _ _)
   | (with_reducible exact impl_NeedAt.mono _ _ _)
   | (with_reducible exact impl_NeedOf.mono _ _)
   | (with_reducible exact spec_DrawLevelFor.mono _ _)
   | (with_reducible exact spec_DrawMixedDays.mono _ _)
   | (with_reducible exact spec_DrawNeedAt.mono _ _)
   | (with_reducible exact LeO.refl _)
   | (with_reducible exact LeO.none _)
   | (with_reducible refine LeO.ite ?_ ?_)
   | (with_reducible refine LeO.bind ?_ (fun _ => ?_))
   | exact ih0 _ _
   | exact ih1 _ _ _ _ _ _ _
   | exact ih2 _ _
   | exact impl_LastsDays.mono _ _ _ _ _ _
   | exact impl_LevelFor.mono _ _ _ _ _ _
   | exact impl_MixedDays.mono _ _ _ _ _ _
   | exact impl_NeedAt.mono _ _ _
   | exact impl_NeedOf.mono _ _
   | exact spec_DrawLevelFor.mono _ _
   | exact spec_DrawMixedDays.mono _ _
   | exact spec_DrawNeedAt.mono _ _
   | exact LeO.none _
   | refine LeO.ite ?_ ?_
   | refine LeO.bind ?_ (fun _ => ?_)
theorem laws_FnRations.mono : ∀ a0 k, LeO (laws_FnRations.f k a0) (laws_FnRations.f (k + 1) a0) := by
 intro a0 k
 obtain ⟨ih0,ih1,ih2⟩:=laws_FnRations.mono_l k
 unfold laws_FnRations.f
 repeat' first
   | (with_reducible exact ih0 _ _)
   | (with_reducible exact ih1 _ _ _ _ _ _ _)
   | (with_reducible exact ih2 _ _)
   | (with_reducible exact impl_LastsDays.mono _ _ _ _ _ _)
   | (with_reducible exact impl_LevelFor.mono _ _ _ _ _ _)
   | (with_reducible exact impl_MixedDays.mono _ _ _ _ _ _)
   | (with_reducible exact impl_NeedAt.mono _ _ _)
   | (with_reducible exact impl_NeedOf.mono _ _)
   | (with_reducible exact spec_DrawLevelFor.mono _ _)
   | (with_reducible exact spec_DrawMixedDays.mono _ _)
   | (with_reducible exact spec_DrawNeedAt.mono _ _)
   | (with_reducible exact LeO.refl _)
   | (with_reducible exact LeO.none _)
   | (with_reducible refine LeO.ite ?_ ?_)
   | (with_reducible refine LeO.bind ?_ (fun _ => ?_))
   | exact ih0 _ _
   | exact ih1 _ _ _ _ _ _ _
   | exact ih2 _ _
   | exact impl_LastsDays.mono _ _ _ _ _ _
   | exact impl_LevelFor.mono _ _ _ _ _ _
   | exact impl_MixedDays.mono _ _ _ _ _ _
   | exact impl_NeedAt.mono _ _ _
   | exact impl_NeedOf.mono _ _
   | exact spec_DrawLevelFor.mono _ _
   | exact spec_DrawMixedDays.mono _ _
   | exact spec_DrawNeedAt.mono _ _
   | exact LeO.none _
   | refine LeO.ite ?_ ?_
   | refine LeO.bind ?_ (fun _ => ?_)
def laws_FnRations.T5 : Bool × List (List Nat × List Nat) := (true, [([], []), ([], []), ([0, 1], [0, 1]), ([2], [2]), ([3], [3]), ([4, 3], [3, 4]), ([5, 3, 3], [3, 5]), ([6], [6]), ([6], [6]), ([8, 6], [6, 8]), ([9, 6, 6], [6, 9]), ([7, 10, 6], [6, 7, 10]), ([6], [6]), ([6], [6]), ([12, 13, 6], [6, 12, 13]), ([6], [6]), ([15, 6], [6, 15]), ([16, 10, 6], [6, 16]), ([14, 17, 6], [6, 14, 17]), ([11, 18, 6], [6, 11, 18]), ([6], [6]), ([20, 6], [6, 20]), ([19, 21, 6], [6, 19, 21]), ([6, 22, 3], [3, 6, 22]), ([3, 23], [3, 23])])
def laws_FnRations.B5 : List Nat := [0, 0, 3, 7, 15, 31, 63, 127, 127, 383, 895, 2047, 127, 127, 12415, 127, 32895, 100223, 259967, 524287, 127, 1048703, 4194303, 8388607, 16777215]
theorem laws_FnRations.tab5 : rtab .any (opsOf Try.f3 5) = laws_FnRations.T5 := by kernel_rfl
theorem laws_FnRations.bits5 : waitsOk laws_FnRations.T5.2 laws_FnRations.B5 = true := by kernel_rfl
def laws_FnRations.T8 : Bool × List (List Nat × List Nat) := (true, [([], []), ([0], [0]), ([], []), ([2, 1], [2]), ([1, 3], [1, 3]), ([4, 3], [4]), ([5], [5]), ([6, 5, 5], [5, 6]), ([5], [5]), ([8, 7, 5], [5, 8]), ([7, 9, 5], [5, 7, 9]), ([5, 10], [5, 10])])
def laws_FnRations.B8 : List Nat := [0, 1, 0, 7, 15, 31, 63, 127, 63, 511, 1023, 2047]
theorem laws_FnRations.tab8 : rtab .any (opsOf Try.f3 8) = laws_FnRations.T8 := by kernel_rfl
theorem laws_FnRations.bits8 : waitsOk laws_FnRations.T8.2 laws_FnRations.B8 = true := by kernel_rfl
set_option maxHeartbeats 8000000 in
set_option maxRecDepth 100000 in
theorem laws_FnRations.calls (k : Nat) (A0 : Option Addr) (c0 : Nat) (l0 : List Int) (r : Bool) (w : World) (hr0 : Kd.C (Kd.int .u8) w A0 l0.length l0) (hc0 : l0.length ≤ c0) (h : laws_FnRations.f k l0 = some r) :
  Calls Try.prog 3 #[.slice A0 l0.length c0] w fun e w' => e = .returned (.bool r) ∧ Below w.heap.size w w':=by
 have hu27:=Try.underlying27;have HR0:=am hr0;have HC0:=am hc0;clear hr0 hc0;have HB:=am (Below.refl w.heap.size w);have H : ((laws_big.f l0).bind fun t515 => (if t515 = true then (some true) else ((spec_DrawMixedDays.f k l0).bind fun bt516 => ((impl_MixedDays.f k bt516.1 bt516.2.1 bt516.2.2.1 bt516.2.2.2.1 bt516.2.2.2.2).bind fun t526 => (if t526 > bt516.2.2.2.2 then (laws_FnRations.j0 k l0 true) else (if t526 ≥ 0 then ((impl_NeedAt.f k bt516.2.2.1 0).bind fun t527 => ((impl_NeedAt.f k bt516.2.2.1 1).bind fun t528 => (laws_FnRations.j0 k l0 (decide ((wrap64 ((wrap64 (t526 * t527)) + (wrap64 ((wrap64 (bt516.2.2.2.2 - t526)) * t528)))) > bt516.2.1))))) else (laws_FnRations.j0 k l0 false))))))) = some r:=h;clear h;replace H:=bS.mp H;obtain ⟨t515,A20,H⟩:=H;replace H : (if t515 = true then (some true) else ((spec_DrawMixedDays.f k l0).bind fun bt516 => ((impl_MixedDays.f k bt516.1 bt516.2.1 bt516.2.2.1 bt516.2.2.2.1 bt516.2.2.2.2).bind fun t526 => (if t526 > bt516.2.2.2.2 then (laws_FnRations.j0 k l0 true) else (if t526 ≥ 0 then ((impl_NeedAt.f k bt516.2.2.1 0).bind fun t527 => ((impl_NeedAt.f k bt516.2.2.1 1).bind fun t528 => (laws_FnRations.j0 k l0 (decide ((wrap64 ((wrap64 (t526 * t527)) + (wrap64 ((wrap64 (bt516.2.2.2.2 - t526)) * t528)))) > bt516.2.1))))) else (laws_FnRations.j0 k l0 false)))))) = some r:=H;have A2:=am A20;clear A20
 by_cases c3 : t515 = true
 ·subst c3;have H1 : (some true) = some r:=by rw [if_pos rfl] at H;exact H
  clear H;have H:=H1;clear H1;obtain rfl:=Option.some.inj H
  go_enter Try.func3,Try.ntmps3
  go_wp2_with (first | ((with_reducible refine gate_callee (f:=11) rfl ?_);refine goesL_ (some 13) rfl rfl Try.func11 (by kernel_rfl) rfl #[.slice A0 l0.length c0] rfl qq137 ?_;(with_reducible refine (laws_big.calls _ _ l0 true _ ?side1 ?side2 A2.out).mono ?_);(case side1 => exact qq138);(case side2 => exact HC0.out);rintro e w' ⟨rfl,⟨nd,rfl⟩⟩;refine ⟨_,rfl,?_⟩))
  go_ret
  exact ⟨qq180,qq143⟩
 ·replace c3:=Bool.eq_false_iff.mpr c3;subst c3;have H1 : ((spec_DrawMixedDays.f k l0).bind fun bt516 => ((impl_MixedDays.f k bt516.1 bt516.2.1 bt516.2.2.1 bt516.2.2.2.1 bt516.2.2.2.2).bind fun t526 => (if t526 > bt516.2.2.2.2 then (laws_FnRations.j0 k l0 true) else (if t526 ≥ 0 then ((impl_NeedAt.f k bt516.2.2.1 0).bind fun t527 => ((impl_NeedAt.f k bt516.2.2.1 1).bind fun t528 => (laws_FnRations.j0 k l0 (decide ((wrap64 ((wrap64 (t526 * t527)) + (wrap64 ((wrap64 (bt516.2.2.2.2 - t526)) * t528)))) > bt516.2.1))))) else (laws_FnRations.j0 k l0 false))))) = some r:=by rw [if_neg (show ¬ (false = true) by decide)] at H;exact H
  clear H;have H:=H1;clear H1;replace H:=bS.mp H;obtain ⟨⟨t516,t517,t518,t521,t524⟩,A40,H⟩:=H;replace H : ((impl_MixedDays.f k t516 t517 t518 t521 t524).bind fun t526 => (if t526 > t524 then (laws_FnRations.j0 k l0 true) else (if t526 ≥ 0 then ((impl_NeedAt.f k t518 0).bind fun t527 => ((impl_NeedAt.f k t518 1).bind fun t528 => (laws_FnRations.j0 k l0 (decide ((wrap64 ((wrap64 (t526 * t527)) + (wrap64 ((wrap64 (t524 - t526)) * t528)))) > t517))))) else (laws_FnRations.j0 k l0 false)))) = some r:=H;have A4:=am A40;clear A40;replace H:=bS.mp H;obtain ⟨t526,A50,H⟩:=H;replace H : (if t526 > t524 then (laws_FnRations.j0 k l0 true) else (if t526 ≥ 0 then ((impl_NeedAt.f k t518 0).bind fun t527 => ((impl_NeedAt.f k t518 1).bind fun t528 => (laws_FnRations.j0 k l0 (decide ((wrap64 ((wrap64 (t526 * t527)) + (wrap64 ((wrap64 (t524 - t526)) * t528)))) > t517))))) else (laws_FnRations.j0 k l0 false))) = some r:=H;have A5:=am A50;clear A50;have HC6:=am H;clear H
  go_enter Try.func3,Try.ntmps3
  go_upto_region 5 with (first | ((with_reducible refine gate_callee (f:=11) rfl ?_);refine goesL_ (some 13) rfl rfl Try.func11 (by kernel_rfl) rfl #[.slice A0 l0.length c0] rfl qq137 ?_;(with_reducible refine (laws_big.calls _ _ l0 false _ ?side1 ?side2 A2.out).mono ?_);(case side1 => exact qq138);(case side2 => exact HC0.out);rintro e w' ⟨rfl,⟨nd,rfl⟩⟩;refine ⟨_,rfl,?_⟩) | ((with_reducible refine gate_callee (f:=12) rfl ?_);refine goesL_ (some 16) rfl rfl Try.func12 (by kernel_rfl) rfl #[.slice A0 l0.length c0] rfl qq137 ?_;(with_reducible refine (spec_DrawMixedDays.calls k _ _ l0 t516 t517 t518 t521 t524 _ ?side1 ?side2 A4.out).mono ?_);(case side1 => exact qq138);(case side2 => exact HC0.out);rintro e w7 ⟨v519,v522,rfl,ho0,ho1,hb⟩;refine ⟨_,rfl,?_⟩;have HO520:=am (Kd.R_lower ho0 (below_size qq143));have HO523:=am (Kd.R_lower ho1 (below_size qq143));replace HB:=am (below_step qq143 hb);(try clear hb);(try clear hb2);(try clear hk);(try clear hi);(try clear ho0);(try clear ho1)) | ((with_reducible refine gate_dst (N:=3) rfl ?_);refine box_event ?hg (N:=3) ?hd (cs:=#[.int .i64 0,.int .i64 0,.slice none 0 0,.slice none 0 0]) (t:=27) ?hr ?_;(case hd => rfl);(case hg => rfl);(case hr => exact qq226);intro gb525 hg w8 hbox hb;replace HO520:=am (Kd.R_below qq193 hb);replace HO523:=am (Kd.R_below qq192 hb);have BK525:=am (hbox);have GW525:=am ((qq119 : w.heap.size ≤ gb525));have GE525:=am ((qq119 : w.heap.size ≤ gb525));replace HB:=am (below_step qq143 hb);clear hb hbox hg;obtain ⟨hcz9_0,hcz9_1,hcz9_2,hcz9_3,hfz9_0,hfz9_1,hfz9_2,hfz9_3⟩:=bcl4 BK525.out;obtain ⟨Ao10,co10,eo10⟩:=Kd.R_slice HO520.out;subst eo10;obtain ⟨Ao11,co11,eo11⟩:=Kd.R_slice HO523.out;subst eo11) | ((with_reducible refine gate_callee (f:=13) rfl ?_);refine goesL_ (some 21) rfl rfl Try.func13 (by kernel_rfl) rfl #[.agg #[.int .i64 t516,.int .i64 t517,.slice Ao10 t518.length co10,.slice Ao11 t521.length co11],.int .i64 t524] rfl qq137 ?_;(with_reducible refine (impl_MixedDays.calls k t516 t517 _ _ t518 _ _ t521 t524 t526 _ ?side1 ?side2 ?side3 ?side4 A5.out).mono ?_);(case side1 => refine (Kd.R_reads' (e:=112) (base:=w.heap.size) (ok:=fun k_ => True) (n:=t518.length) (c:=co10) ?_).2.2;exact qq13);(case side2 => exact qq234);(case side3 => refine (Kd.R_reads' (e:=4) (base:=w.heap.size) (ok:=fun k_ => True) (n:=t521.length) (c:=co11) ?_).2.2;exact qq12);(case side4 => exact (Kd.R_reads' HO523.out).2.1);rintro e w12 ⟨rfl,hb⟩;refine ⟨_,rfl,?_⟩;replace HO520:=am (Kd.R_below qq13 hb);replace HO523:=am (Kd.R_below qq12 hb);replace BK525:=am (blk_below (g:=gb525) (o:=.cells #[.int .i64 t516,.int .i64 t517,.slice Ao10 t518.length co10,.slice Ao11 t521.length co11] 27 (0,0)) (by (with_reducible repeat (first | refine dN ?_ _ | refine dD ?_ | refine dA ?_ _));refine blk_put (cs:=#[.int .i64 t516,.int .i64 t517,.slice Ao10 t518.length co10,.slice none 0 0]) ?_ 3 _ rfl;(with_reducible repeat (first | refine dN ?_ _ | refine dD ?_ | refine dA ?_ _));refine blk_put (cs:=#[.int .i64 t516,.int .i64 t517,.slice none 0 0,.slice none 0 0]) ?_ 2 _ rfl;(with_reducible repeat (first | refine dN ?_ _ | refine dD ?_ | refine dA ?_ _));refine blk_put (cs:=#[.int .i64 t516,.int .i64 0,.slice none 0 0,.slice none 0 0]) ?_ 1 _ rfl;(with_reducible repeat (first | refine dN ?_ _ | refine dD ?_ | refine dA ?_ _));refine blk_put (cs:=#[.int .i64 0,.int .i64 0,.slice none 0 0,.slice none 0 0]) ?_ 0 _ rfl;(with_reducible repeat (first | refine dN ?_ _ | refine dD ?_ | refine dA ?_ _));exact BK525.out) hb);replace HB:=am (below_step qq120 hb);(try clear hb);(try clear hb2);(try clear hk);(try clear hi)))
  (try simp only [Act.put,sA,s0,s1])
  go_cut [46] (fun v46 wc => ∃ (kq : Nat) (x46_5 : Bool),v46 = .bool x46_5 ∧ Aside0 (laws_FnRations.j0 kq l0 x46_5 = some r) ∧ Aside0 (kq ≤ k) ∧ Aside0 (Kd.R k112 112 wc w.heap.size (fun _ => True) (.slice Ao10 t518.length co10) t518) ∧ Aside0 (Kd.R Kd.bool 4 wc w.heap.size (fun _ => True) (.slice Ao11 t521.length co11) t521) ∧ Aside0 (wc.heap[gb525]? = some (.cells #[.int .i64 t516,.int .i64 t517,(.slice Ao10 t518.length co10),(.slice Ao11 t521.length co11)] 27 (0,0))) ∧ Aside0 (Below w.heap.size w wc))
  case first =>
   have H:=HC6.out;clear HC6
   by_cases c13 : t526 > t524
   ·rw [if_pos c13] at H;have c13b0 : decide (t524 < t526) = true:=decide_eq_true c13;clear c13;(first | rw [c13b0] | (simp only [i64_w,i32_w];rw [c13b0]) | skip);have H':=am H;clear H
    try go_wp2
    replace HO520:=am (Kd.R_drew HO520.out);replace HO523:=am (Kd.R_drew HO523.out);replace BK525:=am (blk_drew BK525.out);replace HB:=am (below_drew1 HB.out);refine start_ (n:=25) (S:=fun w' => True) (ds:=[]) m0_14 (by kernel_rfl) rfl rfl trivial (fun hHeld => ?_);refine with_tabW laws_FnRations.tab5 laws_FnRations.bits5 (fun HT_ HW_ => ?_)
    generalize w12.drew = w14 at HO520 HO523 BK525 HB hHeld ⊢
    refine pV (i:=0) (N:=some 22) m1_14 rfl rfl qT ?_
    refine pV (i:=1) (N:=some 23) m2_14 rfl rfl qT ?_
    refine pV (i:=2) (N:=some 24) m3_14 rfl rfl qT ?_
    refine pV (i:=3) (N:=some 25) m4_14 rfl rfl qT ?_
    refine pW (i:=4) (N:=some 26) m5_14 rfl rfl qT ?_
    refine pW (i:=5) (N:=some 27) m6_14 rfl rfl qT ?_
    refine pW (i:=6) (N:=some 28) m7_14 rfl rfl qT ?_
    refine pW (i:=7) (N:=some 29) m8_14 rfl rfl qT ?_
    refine pW (i:=8) (N:=some 30) m9_14 rfl rfl qT ?_
    refine pW (i:=9) (N:=some 31) m10_14 rfl rfl qT ?_
    refine pW (i:=10) (N:=some 32) m11_14 rfl rfl qT ?_
    refine pW (i:=11) (N:=some 33) m12_14 rfl rfl qT ?_
    refine pW (i:=12) (N:=some 34) m13_14 rfl rfl qT ?_
    refine pW (i:=13) (N:=some 35) m14_14 rfl rfl qT ?_
    refine pW (i:=14) (N:=some 36) m15_14 rfl rfl qT ?_
    refine pW (i:=15) (N:=some 37) m16_14 rfl rfl qT ?_
    refine pW (i:=16) (N:=some 38) m17_14 rfl rfl qT ?_
    refine pW (i:=17) (N:=some 39) m18_14 rfl rfl qT ?_
    refine pW (i:=18) (N:=some 40) m19_14 rfl rfl qT ?_
    refine pW (i:=19) (N:=some 41) m20_14 rfl rfl qT ?_
    refine pW (i:=20) (N:=some 42) m21_14 rfl rfl qT ?_
    refine pW (i:=21) (N:=some 43) m22_14 rfl rfl qT ?_
    refine pW (i:=22) (N:=some 44) m23_14 rfl rfl qT ?_
    refine pW (i:=23) (N:=some 45) m24_14 rfl rfl qT ?_
    refine pV (i:=24) (N:=some 46) m25_14 rfl rfl qT ?_
    refine done_ (done_of HT_.out (by kernel_rfl)) ?_
    try go_wp2
    go_meet
    case rel => exact ⟨_,(true),qq225,H',⟨qq230⟩,⟨qq193⟩,⟨qq192⟩,⟨qq145⟩,⟨qq120⟩⟩
   ·rw [if_neg c13] at H;have c13b0 : decide (t524 < t526) = false:=decide_eq_false c13;clear c13;(first | rw [c13b0] | (simp only [i64_w,i32_w];rw [c13b0]) | skip)
    by_cases c15 : t526 ≥ 0
    ·rw [if_pos c15] at H;have c15b0 : decide (0 ≤ t526) = true:=decide_eq_true c15;clear c15;replace H:=bS.mp H;obtain ⟨t527,A160,H⟩:=H;replace H : ((impl_NeedAt.f k t518 1).bind fun t528 => (laws_FnRations.j0 k l0 (decide ((wrap64 ((wrap64 (t526 * t527)) + (wrap64 ((wrap64 (t524 - t526)) * t528)))) > t517)))) = some r:=H;have A16:=am A160;clear A160;replace H:=bS.mp H;obtain ⟨t528,A170,H⟩:=H;replace H : (laws_FnRations.j0 k l0 (decide ((wrap64 ((wrap64 (t526 * t527)) + (wrap64 ((wrap64 (t524 - t526)) * t528)))) > t517))) = some r:=H;have A17:=am A170;clear A170;have H':=am H;clear H
     try go_wp2
     replace HO520:=am (Kd.R_drew HO520.out);replace HO523:=am (Kd.R_drew HO523.out);replace BK525:=am (blk_drew BK525.out);replace HB:=am (below_drew1 HB.out);refine start_ (n:=25) (S:=fun w' => w'.cell? ⟨gb525,0,none⟩ = some (.int .i64 t516) ∧ w'.cell? ⟨gb525,1,none⟩ = some (.int .i64 t517) ∧ w'.cell? ⟨gb525,2,none⟩ = some (.slice Ao10 t518.length co10) ∧ w'.cell? ⟨gb525,3,none⟩ = some (.slice Ao11 t521.length co11)) (ds:=[]) m0_14 (by kernel_rfl) rfl rfl ⟨(blk_cell BK525.out 0).trans rfl,(blk_cell BK525.out 1).trans rfl,(blk_cell BK525.out 2).trans rfl,(blk_cell BK525.out 3).trans rfl⟩ (fun hHeld => ?_);refine with_tabW laws_FnRations.tab5 laws_FnRations.bits5 (fun HT_ HW_ => ?_)
     generalize w12.drew = w18 at HO520 HO523 BK525 HB hHeld ⊢
     refine pV (i:=0) (N:=some 22) m1_14 rfl rfl qT ?_
     refine pV (i:=1) (N:=some 23) m2_14 rfl rfl qT ?_
     refine pV (i:=2) (N:=some 24) m3_14 rfl rfl qT ?_
     refine pV (i:=3) (N:=some 25) m4_14 rfl rfl qT ?_
     refine pV (i:=4) (N:=some 26) m5_14 rfl rfl qT ?_
     refine pV (i:=5) (N:=some 27) m6_14 rfl rfl qT ?_
     refine pV (i:=6) (N:=some 28) m7_14 rfl rfl qT ?_
     refine pV (i:=7) (N:=some 29) m8_14 rfl rfl qT ?_
     refine pV (i:=8) (N:=some 30) m9_14 rfl rfl qT ?_
     refine pV (i:=12) (N:=some 34) #[Y,Y,Y,Y,Y,Y,Y,Y,Y,Z,Z,Z,Y,Z,Z,Z,Z,Z,Z,Z,Z,Z,Z,Z,Z] rfl rfl qT ?_
     refine pV (i:=13) (N:=some 35) #[Y,Y,Y,Y,Y,Y,Y,Y,Y,Z,Z,Z,Y,Y,Z,Z,Z,Z,Z,Z,Z,Z,Z,Z,Z] rfl rfl qT ?_
     refine pV (i:=14) (N:=some 36) #[Y,Y,Y,Y,Y,Y,Y,Y,Y,Z,Z,Z,Y,Y,Y,Z,Z,Z,Z,Z,Z,Z,Z,Z,Z] rfl rfl qT ?_
     refine pV (i:=15) (N:=some 37) #[Y,Y,Y,Y,Y,Y,Y,Y,Y,Z,Z,Z,Y,Y,Y,Y,Z,Z,Z,Z,Z,Z,Z,Z,Z] rfl rfl qT ?_
     refine pV (i:=20) (N:=some 42) #[Y,Y,Y,Y,Y,Y,Y,Y,Y,Z,Z,Z,Y,Y,Y,Y,Z,Z,Z,Z,Y,Z,Z,Z,Z] rfl rfl qT ?_
     refine tV4 (i:=9) (N:=some 31) #[Y,Y,Y,Y,Y,Y,Y,Y,Y,Y,Z,Z,Y,Y,Y,Y,Z,Z,Z,Z,Y,Z,Z,Z,Z] rfl rfl (take_ofW HT_.out HW_.out (by kernel_rfl)) hHeld ?_
     refine tV4 (i:=16) (N:=some 38) #[Y,Y,Y,Y,Y,Y,Y,Y,Y,Y,Z,Z,Y,Y,Y,Y,Y,Z,Z,Z,Y,Z,Z,Z,Z] rfl rfl (take_ofW HT_.out HW_.out (by kernel_rfl)) hHeld ?_
     refine tV4 (i:=21) (N:=some 43) #[Y,Y,Y,Y,Y,Y,Y,Y,Y,Y,Z,Z,Y,Y,Y,Y,Y,Z,Z,Z,Y,Y,Z,Z,Z] rfl rfl (take_ofW HT_.out HW_.out (by kernel_rfl)) hHeld ?_
     refine one_ (i:=10) (N:=some 32) #[Y,Y,Y,Y,Y,Y,Y,Y,Y,Y,Y,Z,Y,Y,Y,Y,Y,Z,Z,Z,Y,Y,Z,Z,Z] rfl rfl (one_of HT_.out (by kernel_rfl)) (by decide) (fun K hK => ?_);refine goes_ Try.func14 (by kernel_rfl) rfl #[.slice Ao10 t518.length co10,.int .i64 0] (by rfl) rfl rfl qq137 ?_;with_reducible refine (impl_NeedAt.calls k _ _ t518 0 t527 _ ?side1 ?side2 A16.out).mono ?_
     (case side1 => exact qq108);(case side2 => exact qq234)
     rintro e w19 ⟨rfl,hb⟩
     refine ⟨_,rfl,?_⟩;replace HO520:=am (Kd.R_below qq193 hb);replace HO523:=am (Kd.R_below qq192 hb);replace BK525:=am (blk_below (g:=gb525) (o:=.cells #[.int .i64 t516,.int .i64 t517,.slice Ao10 t518.length co10,.slice Ao11 t521.length co11] 27 (0,0)) qq145 hb);replace HB:=am (below_step qq120 hb);(try clear hb);(try clear hb2);(try clear hk);(try clear hi);refine hK.out _ _ ⟨(blk_cell BK525.out 0).trans rfl,(blk_cell BK525.out 1).trans rfl,(blk_cell BK525.out 2).trans rfl,(blk_cell BK525.out 3).trans rfl⟩ (fun hHeld => ?_);clear hK K;refine norm_ (a':=?_) ?_ ?_;rotate_left
     ·show Act.put _ (some 32) _ = _
      simp only [Act.put,sA,s0,s1,i64_w,i32_w];rfl
     refine pV (i:=11) (N:=some 33) #[Y,Y,Y,Y,Y,Y,Y,Y,Y,Y,Y,Y,Y,Y,Y,Y,Y,Z,Z,Z,Y,Y,Z,Z,Z] rfl rfl qT ?_
     refine one_ (i:=17) (N:=some 39) #[Y,Y,Y,Y,Y,Y,Y,Y,Y,Y,Y,Y,Y,Y,Y,Y,Y,Y,Z,Z,Y,Y,Z,Z,Z] rfl rfl (one_of HT_.out (by kernel_rfl)) (by decide) (fun K hK => ?_);refine goes_ Try.func14 (by kernel_rfl) rfl #[.slice Ao10 t518.length co10,.int .i64 1] (by rfl) rfl rfl qq137 ?_;with_reducible refine (impl_NeedAt.calls k _ _ t518 1 t528 _ ?side1 ?side2 A17.out).mono ?_
     (case side1 => exact qq108);(case side2 => exact qq234)
     rintro e w20 ⟨rfl,hb⟩
     refine ⟨_,rfl,?_⟩;replace HO520:=am (Kd.R_below qq193 hb);replace HO523:=am (Kd.R_below qq192 hb);replace BK525:=am (blk_below (g:=gb525) (o:=.cells #[.int .i64 t516,.int .i64 t517,.slice Ao10 t518.length co10,.slice Ao11 t521.length co11] 27 (0,0)) qq145 hb);replace HB:=am (below_step qq120 hb);(try clear hb);(try clear hb2);(try clear hk);(try clear hi);refine hK.out _ _ ⟨(blk_cell BK525.out 0).trans rfl,(blk_cell BK525.out 1).trans rfl,(blk_cell BK525.out 2).trans rfl,(blk_cell BK525.out 3).trans rfl⟩ (fun hHeld => ?_);clear hK K;refine norm_ (a':=?_) ?_ ?_;rotate_left
     ·show Act.put _ (some 39) _ = _
      simp only [Act.put,sA,s0,s1,i64_w,i32_w];rfl
     refine pV (i:=18) (N:=some 40) #[Y,Y,Y,Y,Y,Y,Y,Y,Y,Y,Y,Y,Y,Y,Y,Y,Y,Y,Y,Z,Y,Y,Z,Z,Z] rfl rfl qT ?_
     refine pV (i:=19) (N:=some 41) m22_14 rfl rfl qT ?_
     refine pV (i:=22) (N:=some 44) m23_14 rfl rfl qT ?_
     refine pV (i:=23) (N:=some 45) m24_14 rfl rfl qT ?_
     refine pV (i:=24) (N:=some 46) m25_14 rfl rfl qT ?_
     refine done_ (done_of HT_.out (by kernel_rfl)) ?_
     try go_wp2
     go_meet
     case rel => exact ⟨_,(decide ((wrap64 ((wrap64 (t526 * t527)) + (wrap64 ((wrap64 (t524 - t526)) * t528)))) > t517)),qq225,H',⟨qq230⟩,⟨qq193⟩,⟨qq192⟩,⟨qq145⟩,⟨qq120⟩⟩
    ·rw [if_neg c15] at H;have c15b0 : decide (0 ≤ t526) = false:=decide_eq_false c15;clear c15;have H':=am H;clear H
     try go_wp2
     replace HO520:=am (Kd.R_drew HO520.out);replace HO523:=am (Kd.R_drew HO523.out);replace BK525:=am (blk_drew BK525.out);replace HB:=am (below_drew1 HB.out);refine start_ (n:=25) (S:=fun w' => True) (ds:=[]) m0_14 (by kernel_rfl) rfl rfl trivial (fun hHeld => ?_);refine with_tabW laws_FnRations.tab5 laws_FnRations.bits5 (fun HT_ HW_ => ?_)
     generalize w12.drew = w21 at HO520 HO523 BK525 HB hHeld ⊢
     refine pV (i:=0) (N:=some 22) m1_14 rfl rfl qT ?_
     refine pV (i:=1) (N:=some 23) m2_14 rfl rfl qT ?_
     refine pV (i:=2) (N:=some 24) m3_14 rfl rfl qT ?_
     refine pV (i:=3) (N:=some 25) m4_14 rfl rfl qT ?_
     refine pV (i:=4) (N:=some 26) m5_14 rfl rfl qT ?_
     refine pV (i:=5) (N:=some 27) m6_14 rfl rfl qT ?_
     refine pV (i:=6) (N:=some 28) m7_14 rfl rfl qT ?_
     refine pW (i:=7) (N:=some 29) m8_14 rfl rfl qT ?_
     refine pW (i:=8) (N:=some 30) m9_14 rfl rfl qT ?_
     refine pW (i:=9) (N:=some 31) m10_14 rfl rfl qT ?_
     refine pW (i:=10) (N:=some 32) m11_14 rfl rfl qT ?_
     refine pW (i:=11) (N:=some 33) m12_14 rfl rfl qT ?_
     refine pW (i:=12) (N:=some 34) m13_14 rfl rfl qT ?_
     refine pW (i:=13) (N:=some 35) m14_14 rfl rfl qT ?_
     refine pW (i:=14) (N:=some 36) m15_14 rfl rfl qT ?_
     refine pW (i:=15) (N:=some 37) m16_14 rfl rfl qT ?_
     refine pW (i:=16) (N:=some 38) m17_14 rfl rfl qT ?_
     refine pW (i:=17) (N:=some 39) m18_14 rfl rfl qT ?_
     refine pW (i:=18) (N:=some 40) m19_14 rfl rfl qT ?_
     refine pW (i:=19) (N:=some 41) m20_14 rfl rfl qT ?_
     refine pW (i:=20) (N:=some 42) m21_14 rfl rfl qT ?_
     refine pW (i:=21) (N:=some 43) m22_14 rfl rfl qT ?_
     refine pW (i:=22) (N:=some 44) m23_14 rfl rfl qT ?_
     refine pV (i:=23) (N:=some 45) m24_14 rfl rfl qT ?_
     refine pV (i:=24) (N:=some 46) m25_14 rfl rfl qT ?_
     refine done_ (done_of HT_.out (by kernel_rfl)) ?_
     try go_wp2
     go_meet
     case rel => exact ⟨_,(false),qq225,H',⟨qq230⟩,⟨qq193⟩,⟨qq192⟩,⟨qq145⟩,⟨qq120⟩⟩
  case rest =>
   clear HC6
   try clear c1
   try clear p2
   try clear p6
   try clear c13
   try clear c13b0
   try clear c14
   try clear c15
   try clear c15b0
   obtain ⟨kq,x46_5,rfl,HA,HJ5,HO_526002,HO_526003,BK525,HB⟩:=hcut
   cases kq with
   | zero => exact absurd HA.out (by simp [laws_FnRations.j0])
   | succ kj5 =>
    have H:=HA.out;clear HA;simp only [laws_FnRations.j0] at H
    by_cases c22 : x46_5 = true
    ·subst c22;have H1 : (some false) = some r:=by rw [if_pos rfl] at H;exact H
     clear H;have H:=H1;clear H1;obtain rfl:=Option.some.inj H;go_wp2
     go_ret
     exact ⟨qq180,qq120⟩
    ·replace c22:=Bool.eq_false_iff.mpr c22;subst c22;have H1 : ((spec_DrawLevelFor.f kj5 l0).bind fun bt529 => ((impl_LastsDays.f kj5 bt529.1 bt529.2.1 bt529.2.2.1 bt529.2.2.2.1 0).bind fun t539 => ((impl_LastsDays.f kj5 bt529.1 bt529.2.1 bt529.2.2.1 bt529.2.2.2.1 1).bind fun t540 => (if t539 > t540 then (laws_FnRations.j1 kj5 l0 bt529.2.2.2.2 true bt529.1 bt529.2.1 bt529.2.2.1 bt529.2.2.2.1) else ((impl_LastsDays.f kj5 bt529.1 bt529.2.1 bt529.2.2.1 bt529.2.2.2.1 1).bind fun t541 => ((impl_LastsDays.f kj5 bt529.1 bt529.2.1 bt529.2.2.1 bt529.2.2.2.1 2).bind fun t542 => (laws_FnRations.j1 kj5 l0 bt529.2.2.2.2 (decide (t541 > t542)) bt529.1 bt529.2.1 bt529.2.2.1 bt529.2.2.2.1))))))) = some r:=by rw [if_neg (show ¬ (false = true) by decide)] at H;exact H
     clear H;have H:=H1;clear H1;replace H:=bS.mp H;obtain ⟨⟨t529,t530,t531,t534,t537⟩,A230,H⟩:=H;replace H : ((impl_LastsDays.f kj5 t529 t530 t531 t534 0).bind fun t539 => ((impl_LastsDays.f kj5 t529 t530 t531 t534 1).bind fun t540 => (if t539 > t540 then (laws_FnRations.j1 kj5 l0 t537 true t529 t530 t531 t534) else ((impl_LastsDays.f kj5 t529 t530 t531 t534 1).bind fun t541 => ((impl_LastsDays.f kj5 t529 t530 t531 t534 2).bind fun t542 => (laws_FnRations.j1 kj5 l0 t537 (decide (t541 > t542)) t529 t530 t531 t534)))))) = some r:=H;have A23:=am A230;clear A230;have HC24:=am H;clear H
     go_upto_region 8 with (first | ((with_reducible refine gate_callee (f:=15) rfl ?_);refine goesL_ (some 49) rfl rfl Try.func15 (by kernel_rfl) rfl #[.slice A0 l0.length c0] rfl qq137 ?_;(with_reducible refine (spec_DrawLevelFor.calls kj5 _ _ l0 t529 t530 t531 t534 t537 _ ?side1 ?side2 A23.out).mono ?_);(case side1 => exact qq110);(case side2 => exact HC0.out);rintro e w25 ⟨v532,v535,rfl,ho0,ho1,hb⟩;refine ⟨_,rfl,?_⟩;have HO533:=am (Kd.R_lower (Kd.R_new' ho0 (Kd.R_lt qq187)) (below_size qq120));replace HO_526002:=am (Kd.R_elder' qq187 (Kd.R_base ho0) hb);have HO536:=am (Kd.R_lower (Kd.R_new' ho1 (Kd.R_lt qq186)) (below_size qq120));replace HO_526003:=am (Kd.R_elder' qq186 (Kd.R_base ho1) hb);replace BK525:=am (blk_below (g:=gb525) (o:=.cells #[.int .i64 t516,.int .i64 t517,.slice Ao10 t518.length co10,.slice Ao11 t521.length co11] 27 (0,0)) qq145 hb);replace HB:=am (below_step qq120 hb);(try clear hb);(try clear hb2);(try clear hk);(try clear hi);(try clear ho0);(try clear ho1)) | ((with_reducible refine gate_dst (N:=6) rfl ?_);refine box_event ?hg (N:=6) ?hd (cs:=#[.int .i64 0,.int .i64 0,.slice none 0 0,.slice none 0 0]) (t:=27) ?hr ?_;(case hd => rfl);(case hg => rfl);(case hr => exact qq226);intro gb538 hg w26 hbox hb;replace HO_526002:=am (Kd.R_below qq187 hb);replace HO_526003:=am (Kd.R_below qq186 hb);replace HO533:=am (Kd.R_below qq191 hb);replace HO536:=am (Kd.R_below qq190 hb);have BK538:=am (hbox);have GW538:=am ((qq89 : w.heap.size ≤ gb538));have GE538:=am ((qq89 : w.heap.size ≤ gb538));replace HB:=am (below_step qq120 hb);have NB525_538:=am ((by rw [hg];exact Nat.ne_of_lt (blk_lt (g:=gb525) (o:=.cells #[.int .i64 t516,.int .i64 t517,.slice Ao10 t518.length co10,.slice Ao11 t521.length co11] 27 (0,0)) qq145) : gb525 ≠ gb538));have NB538_525:=am ((by rw [hg];exact Nat.ne_of_gt (blk_lt (g:=gb525) (o:=.cells #[.int .i64 t516,.int .i64 t517,.slice Ao10 t518.length co10,.slice Ao11 t521.length co11] 27 (0,0)) qq145) : gb538 ≠ gb525));replace BK525:=am (blk_below (g:=gb525) (o:=.cells #[.int .i64 t516,.int .i64 t517,.slice Ao10 t518.length co10,.slice Ao11 t521.length co11] 27 (0,0)) qq145 hb);clear hb hbox hg;have hnb27:=NB538_525.out;have hnc27:=NB525_538.out;obtain ⟨hcz28_0,hcz28_1,hcz28_2,hcz28_3,hfz28_0,hfz28_1,hfz28_2,hfz28_3⟩:=bcl4 BK538.out;obtain ⟨Ao29,co29,eo29⟩:=Kd.R_slice HO533.out;subst eo29;obtain ⟨Ao30,co30,eo30⟩:=Kd.R_slice HO536.out;subst eo30))
     (try simp only [Act.put,sA,s0,s1])
     go_cut [63] (fun v63 wc => ∃ (kq : Nat) (x63_23 : Bool),v63 = .bool x63_23 ∧ Aside0 (laws_FnRations.j1 kq l0 t537 x63_23 t529 t530 t531 t534 = some r) ∧ Aside0 (kq ≤ kj5) ∧ Aside0 (Kd.R k112 112 wc w.heap.size (fun k_ => some k_ ≠ ((.slice Ao29 t531.length co29) : Value).ownBlock) (.slice Ao10 t518.length co10) t518) ∧ Aside0 (Kd.R Kd.bool 4 wc w.heap.size (fun k_ => some k_ ≠ ((.slice Ao30 t534.length co30) : Value).ownBlock) (.slice Ao11 t521.length co11) t521) ∧ Aside0 (Kd.R k112 112 wc w.heap.size (fun k_ => some k_ ≠ ((.slice Ao10 t518.length co10) : Value).ownBlock) (.slice Ao29 t531.length co29) t531) ∧ Aside0 (Kd.R Kd.bool 4 wc w.heap.size (fun k_ => some k_ ≠ ((.slice Ao11 t521.length co11) : Value).ownBlock) (.slice Ao30 t534.length co30) t534) ∧ Aside0 (wc.heap[gb525]? = some (.cells #[.int .i64 t516,.int .i64 t517,(.slice Ao10 t518.length co10),(.slice Ao11 t521.length co11)] 27 (0,0))) ∧ Aside0 (wc.heap[gb538]? = some (.cells #[.int .i64 t529,.int .i64 t530,(.slice Ao29 t531.length co29),(.slice Ao30 t534.length co30)] 27 (0,0))) ∧ Aside0 (Below w.heap.size w wc))
     case first =>
      have H:=HC24.out;clear HC24;replace H:=bS.mp H;obtain ⟨t539,A310,H⟩:=H;replace H : ((impl_LastsDays.f kj5 t529 t530 t531 t534 1).bind fun t540 => (if t539 > t540 then (laws_FnRations.j1 kj5 l0 t537 true t529 t530 t531 t534) else ((impl_LastsDays.f kj5 t529 t530 t531 t534 1).bind fun t541 => ((impl_LastsDays.f kj5 t529 t530 t531 t534 2).bind fun t542 => (laws_FnRations.j1 kj5 l0 t537 (decide (t541 > t542)) t529 t530 t531 t534))))) = some r:=H;have A31:=am A310;clear A310;replace H:=bS.mp H;obtain ⟨t540,A320,H⟩:=H;replace H : (if t539 > t540 then (laws_FnRations.j1 kj5 l0 t537 true t529 t530 t531 t534) else ((impl_LastsDays.f kj5 t529 t530 t531 t534 1).bind fun t541 => ((impl_LastsDays.f kj5 t529 t530 t531 t534 2).bind fun t542 => (laws_FnRations.j1 kj5 l0 t537 (decide (t541 > t542)) t529 t530 t531 t534)))) = some r:=H;have A32:=am A320;clear A320
      by_cases c33 : t539 > t540
      ·rw [if_pos c33] at H;have c33b0 : decide (t540 < t539) = true:=decide_eq_true c33;clear c33;(first | rw [c33b0] | (simp only [i64_w,i32_w];rw [c33b0]) | skip);have H':=am H;clear H
       try go_wp2
       have n0_ : Aside0 (Kd.R k112 112 ((((w26.setCell ⟨gb538,0,none⟩ (.int .i64 t529)).setCell ⟨gb538,1,none⟩ (.int .i64 t530)).setCell ⟨gb538,2,none⟩ (.slice Ao29 t531.length co29)).setCell ⟨gb538,3,none⟩ (.slice Ao30 t534.length co30)) w.heap.size (fun k_ => some k_ ≠ (.slice Ao29 t531.length co29 : Value).ownBlock) (.slice Ao10 t518.length co10) t518):=⟨qq9⟩
       have n1_ : Aside0 (Kd.R Kd.bool 4 ((((w26.setCell ⟨gb538,0,none⟩ (.int .i64 t529)).setCell ⟨gb538,1,none⟩ (.int .i64 t530)).setCell ⟨gb538,2,none⟩ (.slice Ao29 t531.length co29)).setCell ⟨gb538,3,none⟩ (.slice Ao30 t534.length co30)) w.heap.size (fun k_ => some k_ ≠ (.slice Ao30 t534.length co30 : Value).ownBlock) (.slice Ao11 t521.length co11) t521):=⟨qq8⟩
       have n2_ : Aside0 (Kd.R k112 112 ((((w26.setCell ⟨gb538,0,none⟩ (.int .i64 t529)).setCell ⟨gb538,1,none⟩ (.int .i64 t530)).setCell ⟨gb538,2,none⟩ (.slice Ao29 t531.length co29)).setCell ⟨gb538,3,none⟩ (.slice Ao30 t534.length co30)) w.heap.size (fun k_ => some k_ ≠ (.slice Ao10 t518.length co10 : Value).ownBlock) (.slice Ao29 t531.length co29) t531):=⟨qq11⟩
       have n3_ : Aside0 (Kd.R Kd.bool 4 ((((w26.setCell ⟨gb538,0,none⟩ (.int .i64 t529)).setCell ⟨gb538,1,none⟩ (.int .i64 t530)).setCell ⟨gb538,2,none⟩ (.slice Ao29 t531.length co29)).setCell ⟨gb538,3,none⟩ (.slice Ao30 t534.length co30)) w.heap.size (fun k_ => some k_ ≠ (.slice Ao11 t521.length co11 : Value).ownBlock) (.slice Ao30 t534.length co30) t534):=⟨qq10⟩
       have n4_ : Aside0 (((((w26.setCell ⟨gb538,0,none⟩ (.int .i64 t529)).setCell ⟨gb538,1,none⟩ (.int .i64 t530)).setCell ⟨gb538,2,none⟩ (.slice Ao29 t531.length co29)).setCell ⟨gb538,3,none⟩ (.slice Ao30 t534.length co30)).heap[gb525]? = some (.cells #[.int .i64 t516,.int .i64 t517,.slice Ao10 t518.length co10,.slice Ao11 t521.length co11] 27 (0,0))):=⟨qq5⟩
       have n5_ : Aside0 (((((w26.setCell ⟨gb538,0,none⟩ (.int .i64 t529)).setCell ⟨gb538,1,none⟩ (.int .i64 t530)).setCell ⟨gb538,2,none⟩ (.slice Ao29 t531.length co29)).setCell ⟨gb538,3,none⟩ (.slice Ao30 t534.length co30)).heap[gb538]? = some (.cells #[.int .i64 t529,.int .i64 t530,.slice Ao29 t531.length co29,.slice Ao30 t534.length co30] 27 (0,0))):=⟨qq2⟩
       have n6_ : Aside0 (Below w.heap.size w ((((w26.setCell ⟨gb538,0,none⟩ (.int .i64 t529)).setCell ⟨gb538,1,none⟩ (.int .i64 t530)).setCell ⟨gb538,2,none⟩ (.slice Ao29 t531.length co29)).setCell ⟨gb538,3,none⟩ (.slice Ao30 t534.length co30))):=⟨qq94⟩
       (try clear HO_526002);(try clear HO_526003);(try clear HO533);(try clear HO536);(try clear BK525);(try clear BK538);(try clear HB)
       generalize ((((w26.setCell ⟨gb538,0,none⟩ (.int .i64 t529)).setCell ⟨gb538,1,none⟩ (.int .i64 t530)).setCell ⟨gb538,2,none⟩ (.slice Ao29 t531.length co29)).setCell ⟨gb538,3,none⟩ (.slice Ao30 t534.length co30)) = w34 at n0_ n1_ n2_ n3_ n4_ n5_ n6_ ⊢
       have HO_526002:=n0_;have HO_526003:=n1_;have HO533:=n2_;have HO536:=n3_;have BK525:=n4_;have BK538:=n5_;have HB:=n6_;clear n0_ n1_ n2_ n3_ n4_ n5_ n6_;replace HO_526002:=am (Kd.R_drew HO_526002.out);replace HO_526003:=am (Kd.R_drew HO_526003.out);replace HO533:=am (Kd.R_drew HO533.out);replace HO536:=am (Kd.R_drew HO536.out);replace BK525:=am (blk_drew BK525.out);replace BK538:=am (blk_drew BK538.out);replace HB:=am (below_drew1 HB.out);refine start_ (n:=12) (S:=fun w' => w'.cell? ⟨gb538,0,none⟩ = some (.int .i64 t529) ∧ w'.cell? ⟨gb538,1,none⟩ = some (.int .i64 t530) ∧ w'.cell? ⟨gb538,2,none⟩ = some (.slice Ao29 t531.length co29) ∧ w'.cell? ⟨gb538,3,none⟩ = some (.slice Ao30 t534.length co30)) (ds:=[]) #[Z,Z,Z,Z,Z,Z,Z,Z,Z,Z,Z,Z] (by kernel_rfl) rfl rfl ⟨(blk_cell BK538.out 0).trans rfl,(blk_cell BK538.out 1).trans rfl,(blk_cell BK538.out 2).trans rfl,(blk_cell BK538.out 3).trans rfl⟩ (fun hHeld => ?_);refine with_tabW laws_FnRations.tab8 laws_FnRations.bits8 (fun HT_ HW_ => ?_)
       generalize w34.drew = w35 at HO_526002 HO_526003 HO533 HO536 BK525 BK538 HB hHeld ⊢
       refine tV4 (i:=0) (N:=some 52) #[Y,Z,Z,Z,Z,Z,Z,Z,Z,Z,Z,Z] rfl rfl (take_ofW HT_.out HW_.out (by kernel_rfl)) hHeld ?_
       refine tV4 (i:=2) (N:=some 54) #[Y,Z,Y,Z,Z,Z,Z,Z,Z,Z,Z,Z] rfl rfl (take_ofW HT_.out HW_.out (by kernel_rfl)) hHeld ?_
       refine one_ (i:=1) (N:=some 53) #[Y,Y,Y,Z,Z,Z,Z,Z,Z,Z,Z,Z] rfl rfl (one_of HT_.out (by kernel_rfl)) (by decide) (fun K hK => ?_);refine goes_ Try.func16 (by kernel_rfl) rfl #[.agg #[.int .i64 t529,.int .i64 t530,.slice Ao29 t531.length co29,.slice Ao30 t534.length co30],.int .i64 0] (by rfl) rfl rfl qq137 ?_;with_reducible refine (impl_LastsDays.calls kj5 t529 t530 _ _ t531 _ _ t534 0 t539 _ ?side1 ?side2 ?side3 ?side4 A31.out).mono ?_
       (case side1 => exact qq107);(case side2 => exact qq233);(case side3 => exact qq106);(case side4 => exact qq232)
       rintro e w36 ⟨rfl,hb⟩
       refine ⟨_,rfl,?_⟩;replace HO_526002:=am (Kd.R_below qq187 hb);replace HO_526003:=am (Kd.R_below qq186 hb);replace HO533:=am (Kd.R_below qq191 hb);replace HO536:=am (Kd.R_below qq190 hb);replace BK525:=am (blk_below (g:=gb525) (o:=.cells #[.int .i64 t516,.int .i64 t517,.slice Ao10 t518.length co10,.slice Ao11 t521.length co11] 27 (0,0)) qq145 hb);replace BK538:=am (blk_below (g:=gb538) (o:=.cells #[.int .i64 t529,.int .i64 t530,.slice Ao29 t531.length co29,.slice Ao30 t534.length co30] 27 (0,0)) qq144 hb);replace HB:=am (below_step qq94 hb);(try clear hb);(try clear hb2);(try clear hk);(try clear hi);refine hK.out _ _ ⟨(blk_cell BK538.out 0).trans rfl,(blk_cell BK538.out 1).trans rfl,(blk_cell BK538.out 2).trans rfl,(blk_cell BK538.out 3).trans rfl⟩ (fun hHeld => ?_);clear hK K;refine norm_ (a':=?_) ?_ ?_;rotate_left
       ·show Act.put _ (some 53) _ = _
        simp only [Act.put,sA,s0,s1,i64_w,i32_w];rfl
       refine one_ (i:=3) (N:=some 55) #[Y,Y,Y,Y,Z,Z,Z,Z,Z,Z,Z,Z] rfl rfl (one_of HT_.out (by kernel_rfl)) (by decide) (fun K hK => ?_);refine goes_ Try.func16 (by kernel_rfl) rfl #[.agg #[.int .i64 t529,.int .i64 t530,.slice Ao29 t531.length co29,.slice Ao30 t534.length co30],.int .i64 1] (by rfl) rfl rfl qq137 ?_;with_reducible refine (impl_LastsDays.calls kj5 t529 t530 _ _ t531 _ _ t534 1 t540 _ ?side1 ?side2 ?side3 ?side4 A32.out).mono ?_
       (case side1 => exact qq107);(case side2 => exact qq233);(case side3 => exact qq106);(case side4 => exact qq232)
       rintro e w37 ⟨rfl,hb⟩
       refine ⟨_,rfl,?_⟩;replace HO_526002:=am (Kd.R_below qq187 hb);replace HO_526003:=am (Kd.R_below qq186 hb);replace HO533:=am (Kd.R_below qq191 hb);replace HO536:=am (Kd.R_below qq190 hb);replace BK525:=am (blk_below (g:=gb525) (o:=.cells #[.int .i64 t516,.int .i64 t517,.slice Ao10 t518.length co10,.slice Ao11 t521.length co11] 27 (0,0)) qq145 hb);replace BK538:=am (blk_below (g:=gb538) (o:=.cells #[.int .i64 t529,.int .i64 t530,.slice Ao29 t531.length co29,.slice Ao30 t534.length co30] 27 (0,0)) qq144 hb);replace HB:=am (below_step qq94 hb);(try clear hb);(try clear hb2);(try clear hk);(try clear hi);refine hK.out _ _ ⟨(blk_cell BK538.out 0).trans rfl,(blk_cell BK538.out 1).trans rfl,(blk_cell BK538.out 2).trans rfl,(blk_cell BK538.out 3).trans rfl⟩ (fun hHeld => ?_);clear hK K;refine norm_ (a':=?_) ?_ ?_;rotate_left
       ·show Act.put _ (some 55) _ = _
        simp only [Act.put,sA,s0,s1,i64_w,i32_w];rfl
       refine pV (i:=4) (N:=some 56) #[Y,Y,Y,Y,Y,Z,Z,Z,Z,Z,Z,Z] rfl rfl qT ?_
       refine pV (i:=5) (N:=some 57) #[Y,Y,Y,Y,Y,Y,Z,Z,Z,Z,Z,Z] rfl rfl qT ?_
       refine pW (i:=6) (N:=some 58) #[Y,Y,Y,Y,Y,Y,Y,Z,Z,Z,Z,Z] rfl rfl qT ?_
       refine pW (i:=7) (N:=some 59) #[Y,Y,Y,Y,Y,Y,Y,Y,Z,Z,Z,Z] rfl rfl qT ?_
       refine pW (i:=8) (N:=some 60) #[Y,Y,Y,Y,Y,Y,Y,Y,Y,Z,Z,Z] rfl rfl qT ?_
       refine pW (i:=9) (N:=some 61) #[Y,Y,Y,Y,Y,Y,Y,Y,Y,Y,Z,Z] rfl rfl qT ?_
       refine pW (i:=10) (N:=some 62) #[Y,Y,Y,Y,Y,Y,Y,Y,Y,Y,Y,Z] rfl rfl qT ?_
       refine pV (i:=11) (N:=some 63) #[Y,Y,Y,Y,Y,Y,Y,Y,Y,Y,Y,Y] rfl rfl qT ?_
       refine done_ (done_of HT_.out (by kernel_rfl)) ?_
       try go_wp2
       go_meet
       case rel => exact ⟨_,(true),qq225,H',⟨by have:=HJ5.out;first | omega | exact Nat.le_refl _⟩,⟨qq187⟩,⟨qq186⟩,⟨qq191⟩,⟨qq190⟩,⟨qq145⟩,⟨qq144⟩,⟨qq94⟩⟩
      ·rw [if_neg c33] at H;have c33b0 : decide (t540 < t539) = false:=decide_eq_false c33;clear c33;(first | rw [c33b0] | (simp only [i64_w,i32_w];rw [c33b0]) | skip);replace H:=bS.mp H;obtain ⟨t541,A380,H⟩:=H;replace H : ((impl_LastsDays.f kj5 t529 t530 t531 t534 2).bind fun t542 => (laws_FnRations.j1 kj5 l0 t537 (decide (t541 > t542)) t529 t530 t531 t534)) = some r:=H;have A38:=am A380;clear A380;replace H:=bS.mp H;obtain ⟨t542,A390,H⟩:=H;replace H : (laws_FnRations.j1 kj5 l0 t537 (decide (t541 > t542)) t529 t530 t531 t534) = some r:=H;have A39:=am A390;clear A390;have H':=am H;clear H
       try go_wp2
       have n0_ : Aside0 (Kd.R k112 112 ((((w26.setCell ⟨gb538,0,none⟩ (.int .i64 t529)).setCell ⟨gb538,1,none⟩ (.int .i64 t530)).setCell ⟨gb538,2,none⟩ (.slice Ao29 t531.length co29)).setCell ⟨gb538,3,none⟩ (.slice Ao30 t534.length co30)) w.heap.size (fun k_ => some k_ ≠ (.slice Ao29 t531.length co29 : Value).ownBlock) (.slice Ao10 t518.length co10) t518):=⟨qq9⟩
       have n1_ : Aside0 (Kd.R Kd.bool 4 ((((w26.setCell ⟨gb538,0,none⟩ (.int .i64 t529)).setCell ⟨gb538,1,none⟩ (.int .i64 t530)).setCell ⟨gb538,2,none⟩ (.slice Ao29 t531.length co29)).setCell ⟨gb538,3,none⟩ (.slice Ao30 t534.length co30)) w.heap.size (fun k_ => some k_ ≠ (.slice Ao30 t534.length co30 : Value).ownBlock) (.slice Ao11 t521.length co11) t521):=⟨qq8⟩
       have n2_ : Aside0 (Kd.R k112 112 ((((w26.setCell ⟨gb538,0,none⟩ (.int .i64 t529)).setCell ⟨gb538,1,none⟩ (.int .i64 t530)).setCell ⟨gb538,2,none⟩ (.slice Ao29 t531.length co29)).setCell ⟨gb538,3,none⟩ (.slice Ao30 t534.length co30)) w.heap.size (fun k_ => some k_ ≠ (.slice Ao10 t518.length co10 : Value).ownBlock) (.slice Ao29 t531.length co29) t531):=⟨qq11⟩
       have n3_ : Aside0 (Kd.R Kd.bool 4 ((((w26.setCell ⟨gb538,0,none⟩ (.int .i64 t529)).setCell ⟨gb538,1,none⟩ (.int .i64 t530)).setCell ⟨gb538,2,none⟩ (.slice Ao29 t531.length co29)).setCell ⟨gb538,3,none⟩ (.slice Ao30 t534.length co30)) w.heap.size (fun k_ => some k_ ≠ (.slice Ao11 t521.length co11 : Value).ownBlock) (.slice Ao30 t534.length co30) t534):=⟨qq10⟩
       have n4_ : Aside0 (((((w26.setCell ⟨gb538,0,none⟩ (.int .i64 t529)).setCell ⟨gb538,1,none⟩ (.int .i64 t530)).setCell ⟨gb538,2,none⟩ (.slice Ao29 t531.length co29)).setCell ⟨gb538,3,none⟩ (.slice Ao30 t534.length co30)).heap[gb525]? = some (.cells #[.int .i64 t516,.int .i64 t517,.slice Ao10 t518.length co10,.slice Ao11 t521.length co11] 27 (0,0))):=⟨qq5⟩
       have n5_ : Aside0 (((((w26.setCell ⟨gb538,0,none⟩ (.int .i64 t529)).setCell ⟨gb538,1,none⟩ (.int .i64 t530)).setCell ⟨gb538,2,none⟩ (.slice Ao29 t531.length co29)).setCell ⟨gb538,3,none⟩ (.slice Ao30 t534.length co30)).heap[gb538]? = some (.cells #[.int .i64 t529,.int .i64 t530,.slice Ao29 t531.length co29,.slice Ao30 t534.length co30] 27 (0,0))):=⟨qq2⟩
       have n6_ : Aside0 (Below w.heap.size w ((((w26.setCell ⟨gb538,0,none⟩ (.int .i64 t529)).setCell ⟨gb538,1,none⟩ (.int .i64 t530)).setCell ⟨gb538,2,none⟩ (.slice Ao29 t531.length co29)).setCell ⟨gb538,3,none⟩ (.slice Ao30 t534.length co30))):=⟨qq94⟩
       (try clear HO_526002);(try clear HO_526003);(try clear HO533);(try clear HO536);(try clear BK525);(try clear BK538);(try clear HB)
       generalize ((((w26.setCell ⟨gb538,0,none⟩ (.int .i64 t529)).setCell ⟨gb538,1,none⟩ (.int .i64 t530)).setCell ⟨gb538,2,none⟩ (.slice Ao29 t531.length co29)).setCell ⟨gb538,3,none⟩ (.slice Ao30 t534.length co30)) = w40 at n0_ n1_ n2_ n3_ n4_ n5_ n6_ ⊢
       have HO_526002:=n0_;have HO_526003:=n1_;have HO533:=n2_;have HO536:=n3_;have BK525:=n4_;have BK538:=n5_;have HB:=n6_;clear n0_ n1_ n2_ n3_ n4_ n5_ n6_;replace HO_526002:=am (Kd.R_drew HO_526002.out);replace HO_526003:=am (Kd.R_drew HO_526003.out);replace HO533:=am (Kd.R_drew HO533.out);replace HO536:=am (Kd.R_drew HO536.out);replace BK525:=am (blk_drew BK525.out);replace BK538:=am (blk_drew BK538.out);replace HB:=am (below_drew1 HB.out);refine start_ (n:=12) (S:=fun w' => w'.cell? ⟨gb538,0,none⟩ = some (.int .i64 t529) ∧ w'.cell? ⟨gb538,1,none⟩ = some (.int .i64 t530) ∧ w'.cell? ⟨gb538,2,none⟩ = some (.slice Ao29 t531.length co29) ∧ w'.cell? ⟨gb538,3,none⟩ = some (.slice Ao30 t534.length co30)) (ds:=[]) #[Z,Z,Z,Z,Z,Z,Z,Z,Z,Z,Z,Z] (by kernel_rfl) rfl rfl ⟨(blk_cell BK538.out 0).trans rfl,(blk_cell BK538.out 1).trans rfl,(blk_cell BK538.out 2).trans rfl,(blk_cell BK538.out 3).trans rfl⟩ (fun hHeld => ?_);refine with_tabW laws_FnRations.tab8 laws_FnRations.bits8 (fun HT_ HW_ => ?_)
       generalize w40.drew = w41 at HO_526002 HO_526003 HO533 HO536 BK525 BK538 HB hHeld ⊢
       refine tV4 (i:=0) (N:=some 52) #[Y,Z,Z,Z,Z,Z,Z,Z,Z,Z,Z,Z] rfl rfl (take_ofW HT_.out HW_.out (by kernel_rfl)) hHeld ?_
       refine tV4 (i:=2) (N:=some 54) #[Y,Z,Y,Z,Z,Z,Z,Z,Z,Z,Z,Z] rfl rfl (take_ofW HT_.out HW_.out (by kernel_rfl)) hHeld ?_
       refine one_ (i:=1) (N:=some 53) #[Y,Y,Y,Z,Z,Z,Z,Z,Z,Z,Z,Z] rfl rfl (one_of HT_.out (by kernel_rfl)) (by decide) (fun K hK => ?_);refine goes_ Try.func16 (by kernel_rfl) rfl #[.agg #[.int .i64 t529,.int .i64 t530,.slice Ao29 t531.length co29,.slice Ao30 t534.length co30],.int .i64 0] (by rfl) rfl rfl qq137 ?_;with_reducible refine (impl_LastsDays.calls kj5 t529 t530 _ _ t531 _ _ t534 0 t539 _ ?side1 ?side2 ?side3 ?side4 A31.out).mono ?_
       (case side1 => exact qq107);(case side2 => exact qq233);(case side3 => exact qq106);(case side4 => exact qq232)
       rintro e w42 ⟨rfl,hb⟩
       refine ⟨_,rfl,?_⟩;replace HO_526002:=am (Kd.R_below qq187 hb);replace HO_526003:=am (Kd.R_below qq186 hb);replace HO533:=am (Kd.R_below qq191 hb);replace HO536:=am (Kd.R_below qq190 hb);replace BK525:=am (blk_below (g:=gb525) (o:=.cells #[.int .i64 t516,.int .i64 t517,.slice Ao10 t518.length co10,.slice Ao11 t521.length co11] 27 (0,0)) qq145 hb);replace BK538:=am (blk_below (g:=gb538) (o:=.cells #[.int .i64 t529,.int .i64 t530,.slice Ao29 t531.length co29,.slice Ao30 t534.length co30] 27 (0,0)) qq144 hb);replace HB:=am (below_step qq94 hb);(try clear hb);(try clear hb2);(try clear hk);(try clear hi);refine hK.out _ _ ⟨(blk_cell BK538.out 0).trans rfl,(blk_cell BK538.out 1).trans rfl,(blk_cell BK538.out 2).trans rfl,(blk_cell BK538.out 3).trans rfl⟩ (fun hHeld => ?_);clear hK K;refine norm_ (a':=?_) ?_ ?_;rotate_left
       ·show Act.put _ (some 53) _ = _
        simp only [Act.put,sA,s0,s1,i64_w,i32_w];rfl
       refine one_ (i:=3) (N:=some 55) #[Y,Y,Y,Y,Z,Z,Z,Z,Z,Z,Z,Z] rfl rfl (one_of HT_.out (by kernel_rfl)) (by decide) (fun K hK => ?_);refine goes_ Try.func16 (by kernel_rfl) rfl #[.agg #[.int .i64 t529,.int .i64 t530,.slice Ao29 t531.length co29,.slice Ao30 t534.length co30],.int .i64 1] (by rfl) rfl rfl qq137 ?_;with_reducible refine (impl_LastsDays.calls kj5 t529 t530 _ _ t531 _ _ t534 1 t540 _ ?side1 ?side2 ?side3 ?side4 A32.out).mono ?_
       (case side1 => exact qq107);(case side2 => exact qq233);(case side3 => exact qq106);(case side4 => exact qq232)
       rintro e w43 ⟨rfl,hb⟩
       refine ⟨_,rfl,?_⟩;replace HO_526002:=am (Kd.R_below qq187 hb);replace HO_526003:=am (Kd.R_below qq186 hb);replace HO533:=am (Kd.R_below qq191 hb);replace HO536:=am (Kd.R_below qq190 hb);replace BK525:=am (blk_below (g:=gb525) (o:=.cells #[.int .i64 t516,.int .i64 t517,.slice Ao10 t518.length co10,.slice Ao11 t521.length co11] 27 (0,0)) qq145 hb);replace BK538:=am (blk_below (g:=gb538) (o:=.cells #[.int .i64 t529,.int .i64 t530,.slice Ao29 t531.length co29,.slice Ao30 t534.length co30] 27 (0,0)) qq144 hb);replace HB:=am (below_step qq94 hb);(try clear hb);(try clear hb2);(try clear hk);(try clear hi);refine hK.out _ _ ⟨(blk_cell BK538.out 0).trans rfl,(blk_cell BK538.out 1).trans rfl,(blk_cell BK538.out 2).trans rfl,(blk_cell BK538.out 3).trans rfl⟩ (fun hHeld => ?_);clear hK K;refine norm_ (a':=?_) ?_ ?_;rotate_left
       ·show Act.put _ (some 55) _ = _
        simp only [Act.put,sA,s0,s1,i64_w,i32_w];rfl
       refine pV (i:=4) (N:=some 56) #[Y,Y,Y,Y,Y,Z,Z,Z,Z,Z,Z,Z] rfl rfl qT ?_
       refine pV (i:=5) (N:=some 57) #[Y,Y,Y,Y,Y,Y,Z,Z,Z,Z,Z,Z] rfl rfl qT ?_
       refine tV4 (i:=6) (N:=some 58) #[Y,Y,Y,Y,Y,Y,Y,Z,Z,Z,Z,Z] rfl rfl (take_ofW HT_.out HW_.out (by kernel_rfl)) hHeld ?_
       refine tV4 (i:=8) (N:=some 60) #[Y,Y,Y,Y,Y,Y,Y,Z,Y,Z,Z,Z] rfl rfl (take_ofW HT_.out HW_.out (by kernel_rfl)) hHeld ?_
       refine one_ (i:=7) (N:=some 59) #[Y,Y,Y,Y,Y,Y,Y,Y,Y,Z,Z,Z] rfl rfl (one_of HT_.out (by kernel_rfl)) (by decide) (fun K hK => ?_);refine goes_ Try.func16 (by kernel_rfl) rfl #[.agg #[.int .i64 t529,.int .i64 t530,.slice Ao29 t531.length co29,.slice Ao30 t534.length co30],.int .i64 1] (by rfl) rfl rfl qq137 ?_;with_reducible refine (impl_LastsDays.calls kj5 t529 t530 _ _ t531 _ _ t534 1 t541 _ ?side1 ?side2 ?side3 ?side4 A38.out).mono ?_
       (case side1 => exact qq107);(case side2 => exact qq233);(case side3 => exact qq106);(case side4 => exact qq232)
       rintro e w44 ⟨rfl,hb⟩
       refine ⟨_,rfl,?_⟩;replace HO_526002:=am (Kd.R_below qq187 hb);replace HO_526003:=am (Kd.R_below qq186 hb);replace HO533:=am (Kd.R_below qq191 hb);replace HO536:=am (Kd.R_below qq190 hb);replace BK525:=am (blk_below (g:=gb525) (o:=.cells #[.int .i64 t516,.int .i64 t517,.slice Ao10 t518.length co10,.slice Ao11 t521.length co11] 27 (0,0)) qq145 hb);replace BK538:=am (blk_below (g:=gb538) (o:=.cells #[.int .i64 t529,.int .i64 t530,.slice Ao29 t531.length co29,.slice Ao30 t534.length co30] 27 (0,0)) qq144 hb);replace HB:=am (below_step qq94 hb);(try clear hb);(try clear hb2);(try clear hk);(try clear hi);refine hK.out _ _ ⟨(blk_cell BK538.out 0).trans rfl,(blk_cell BK538.out 1).trans rfl,(blk_cell BK538.out 2).trans rfl,(blk_cell BK538.out 3).trans rfl⟩ (fun hHeld => ?_);clear hK K;refine norm_ (a':=?_) ?_ ?_;rotate_left
       ·show Act.put _ (some 59) _ = _
        simp only [Act.put,sA,s0,s1,i64_w,i32_w];rfl
       refine one_ (i:=9) (N:=some 61) #[Y,Y,Y,Y,Y,Y,Y,Y,Y,Y,Z,Z] rfl rfl (one_of HT_.out (by kernel_rfl)) (by decide) (fun K hK => ?_);refine goes_ Try.func16 (by kernel_rfl) rfl #[.agg #[.int .i64 t529,.int .i64 t530,.slice Ao29 t531.length co29,.slice Ao30 t534.length co30],.int .i64 2] (by rfl) rfl rfl qq137 ?_;with_reducible refine (impl_LastsDays.calls kj5 t529 t530 _ _ t531 _ _ t534 2 t542 _ ?side1 ?side2 ?side3 ?side4 A39.out).mono ?_
       (case side1 => exact qq107);(case side2 => exact qq233);(case side3 => exact qq106);(case side4 => exact qq232)
       rintro e w45 ⟨rfl,hb⟩
       refine ⟨_,rfl,?_⟩;replace HO_526002:=am (Kd.R_below qq187 hb);replace HO_526003:=am (Kd.R_below qq186 hb);replace HO533:=am (Kd.R_below qq191 hb);replace HO536:=am (Kd.R_below qq190 hb);replace BK525:=am (blk_below (g:=gb525) (o:=.cells #[.int .i64 t516,.int .i64 t517,.slice Ao10 t518.length co10,.slice Ao11 t521.length co11] 27 (0,0)) qq145 hb);replace BK538:=am (blk_below (g:=gb538) (o:=.cells #[.int .i64 t529,.int .i64 t530,.slice Ao29 t531.length co29,.slice Ao30 t534.length co30] 27 (0,0)) qq144 hb);replace HB:=am (below_step qq94 hb);(try clear hb);(try clear hb2);(try clear hk);(try clear hi);refine hK.out _ _ ⟨(blk_cell BK538.out 0).trans rfl,(blk_cell BK538.out 1).trans rfl,(blk_cell BK538.out 2).trans rfl,(blk_cell BK538.out 3).trans rfl⟩ (fun hHeld => ?_);clear hK K;refine norm_ (a':=?_) ?_ ?_;rotate_left
       ·show Act.put _ (some 61) _ = _
        simp only [Act.put,sA,s0,s1,i64_w,i32_w];rfl
       refine pV (i:=10) (N:=some 62) #[Y,Y,Y,Y,Y,Y,Y,Y,Y,Y,Y,Z] rfl rfl qT ?_
       refine pV (i:=11) (N:=some 63) #[Y,Y,Y,Y,Y,Y,Y,Y,Y,Y,Y,Y] rfl rfl qT ?_
       refine done_ (done_of HT_.out (by kernel_rfl)) ?_
       try go_wp2
       go_meet
       case rel => exact ⟨_,(decide (t541 > t542)),qq225,H',⟨by have:=HJ5.out;first | omega | exact Nat.le_refl _⟩,⟨qq187⟩,⟨qq186⟩,⟨qq191⟩,⟨qq190⟩,⟨qq145⟩,⟨qq144⟩,⟨qq94⟩⟩
     case rest =>
      clear HC24
      try clear c1
      try clear c2
      try clear p2
      try clear c3
      try clear p6
      try clear c13
      try clear c13b0
      try clear c14
      try clear c15
      try clear c15b0
      try clear c16
      try clear c22
      try clear c27
      try clear c33
      try clear c33b0
      try clear hcz28_0
      try clear hcz28_1
      try clear hcz28_2
      try clear hcz28_3
      try clear hfz28_0
      try clear hfz28_1
      try clear hfz28_2
      try clear hfz28_3
      try clear p2
      try clear p6
      obtain ⟨kq,x63_23,rfl,HA,HJ23,HO_526002,HO_526003,HO_539002,HO_539003,BK525,BK538,HB⟩:=hcut
      cases kq with
      | zero => exact absurd HA.out (by simp [laws_FnRations.j1])
      | succ kj23 =>
       have H:=HA.out;clear HA;simp only [laws_FnRations.j1] at H
       by_cases c46 : x63_23 = true
       ·subst c46;have H1 : (some false) = some r:=by rw [if_pos rfl] at H;exact H
        clear H;have H:=H1;clear H1;obtain rfl:=Option.some.inj H;go_wp2
        go_ret
        exact ⟨qq180,qq94⟩
       ·replace c46:=Bool.eq_false_iff.mpr c46;subst c46;have H1 : ((impl_LevelFor.f kj23 t529 t530 t531 t534 t537).bind fun t543 => (if t543 ≥ 0 then ((impl_LastsDays.f kj23 t529 t530 t531 t534 t543).bind fun t544 => (if t544 < t537 then (laws_FnRations.j2 kj23 l0 true) else (if t543 > 0 then ((impl_LastsDays.f kj23 t529 t530 t531 t534 (wrap64 (t543 - 1))).bind fun t545 => (laws_FnRations.j2 kj23 l0 (decide (t545 ≥ t537)))) else (laws_FnRations.j2 kj23 l0 false)))) else (laws_FnRations.j2 kj23 l0 false))) = some r:=by rw [if_neg (show ¬ (false = true) by decide)] at H;exact H
        clear H;have H:=H1;clear H1;replace H:=bS.mp H;obtain ⟨t543,A470,H⟩:=H;replace H : (if t543 ≥ 0 then ((impl_LastsDays.f kj23 t529 t530 t531 t534 t543).bind fun t544 => (if t544 < t537 then (laws_FnRations.j2 kj23 l0 true) else (if t543 > 0 then ((impl_LastsDays.f kj23 t529 t530 t531 t534 (wrap64 (t543 - 1))).bind fun t545 => (laws_FnRations.j2 kj23 l0 (decide (t545 ≥ t537)))) else (laws_FnRations.j2 kj23 l0 false)))) else (laws_FnRations.j2 kj23 l0 false)) = some r:=H;have A47:=am A470;clear A470;have HC48:=am H;clear H;have hnb49:=NB538_525.out;have hnc49:=NB525_538.out;obtain ⟨hcz50_0,hcz50_1,hcz50_2,hcz50_3,hfz50_0,hfz50_1,hfz50_2,hfz50_3⟩:=bcl4 BK538.out
        go_upto_region 11 with (first | ((with_reducible refine gate_callee (f:=17) rfl ?_);refine goesL_ (some 66) rfl rfl Try.func17 (by kernel_rfl) rfl #[.agg #[.int .i64 t529,.int .i64 t530,.slice Ao29 t531.length co29,.slice Ao30 t534.length co30],.int .i64 t537] rfl qq137 ?_;(with_reducible refine (impl_LevelFor.calls kj23 t529 t530 _ _ t531 _ _ t534 t537 t543 _ ?side1 ?side2 ?side3 ?side4 A47.out).mono ?_);(case side1 => exact qq102);(case side2 => exact qq228);(case side3 => exact qq101);(case side4 => exact qq227);rintro e w51 ⟨rfl,hb⟩;refine ⟨_,rfl,?_⟩;replace HO_526002:=am (Kd.R_below qq187 hb);replace HO_526003:=am (Kd.R_below qq186 hb);replace HO_539002:=am (Kd.R_below qq185 hb);replace HO_539003:=am (Kd.R_below qq184 hb);replace BK525:=am (blk_below (g:=gb525) (o:=.cells #[.int .i64 t516,.int .i64 t517,.slice Ao10 t518.length co10,.slice Ao11 t521.length co11] 27 (0,0)) qq145 hb);replace BK538:=am (blk_below (g:=gb538) (o:=.cells #[.int .i64 t529,.int .i64 t530,.slice Ao29 t531.length co29,.slice Ao30 t534.length co30] 27 (0,0)) qq144 hb);replace HB:=am (below_step qq94 hb);(try clear hb);(try clear hb2);(try clear hk);(try clear hi)))
        (try simp only [Act.put,sA,s0,s1])
        go_cut [87] (fun v87 wc => ∃ (kq : Nat) (x87_47 : Bool),v87 = .bool x87_47 ∧ Aside0 (laws_FnRations.j2 kq l0 x87_47 = some r) ∧ Aside0 (kq ≤ kj23) ∧ Aside0 (Kd.R k112 112 wc w.heap.size (fun k_ => some k_ ≠ ((.slice Ao29 t531.length co29) : Value).ownBlock) (.slice Ao10 t518.length co10) t518) ∧ Aside0 (Kd.R Kd.bool 4 wc w.heap.size (fun k_ => some k_ ≠ ((.slice Ao30 t534.length co30) : Value).ownBlock) (.slice Ao11 t521.length co11) t521) ∧ Aside0 (Kd.R k112 112 wc w.heap.size (fun k_ => some k_ ≠ ((.slice Ao10 t518.length co10) : Value).ownBlock) (.slice Ao29 t531.length co29) t531) ∧ Aside0 (Kd.R Kd.bool 4 wc w.heap.size (fun k_ => some k_ ≠ ((.slice Ao11 t521.length co11) : Value).ownBlock) (.slice Ao30 t534.length co30) t534) ∧ Aside0 (wc.heap[gb525]? = some (.cells #[.int .i64 t516,.int .i64 t517,(.slice Ao10 t518.length co10),(.slice Ao11 t521.length co11)] 27 (0,0))) ∧ Aside0 (wc.heap[gb538]? = some (.cells #[.int .i64 t529,.int .i64 t530,(.slice Ao29 t531.length co29),(.slice Ao30 t534.length co30)] 27 (0,0))) ∧ Aside0 (Below w.heap.size w wc))
        case first =>
         have H:=HC48.out;clear HC48
         by_cases c52 : t543 ≥ 0
         ·rw [if_pos c52] at H;have c52b0 : decide (0 ≤ t543) = true:=decide_eq_true c52;clear c52;(first | rw [c52b0] | (simp only [i64_w,i32_w];rw [c52b0]) | skip);replace H:=bS.mp H;obtain ⟨t544,A530,H⟩:=H;replace H : (if t544 < t537 then (laws_FnRations.j2 kj23 l0 true) else (if t543 > 0 then ((impl_LastsDays.f kj23 t529 t530 t531 t534 (wrap64 (t543 - 1))).bind fun t545 => (laws_FnRations.j2 kj23 l0 (decide (t545 ≥ t537)))) else (laws_FnRations.j2 kj23 l0 false))) = some r:=H;have A53:=am A530;clear A530
          by_cases c54 : t544 < t537
          ·rw [if_pos c54] at H;have c54b0 : decide (t544 < t537) = true:=decide_eq_true c54;clear c54;have H':=am H;clear H;have hnb55:=NB538_525.out;have hnc55:=NB525_538.out;obtain ⟨hcz56_0,hcz56_1,hcz56_2,hcz56_3,hfz56_0,hfz56_1,hfz56_2,hfz56_3⟩:=bcl4 BK538.out;go_wp2_with (first | (go_at_call 16;(with_reducible refine (impl_LastsDays.calls kj23 t529 t530 _ _ t531 _ _ t534 t543 t544 _ ?side1 ?side2 ?side3 ?side4 A53.out).mono ?_);(case side1 => exact qq102);(case side2 => exact qq228);(case side3 => exact qq101);(case side4 => exact qq227);rintro e w57 ⟨rfl,hb⟩;replace HO_526002:=am (Kd.R_below qq187 hb);replace HO_526003:=am (Kd.R_below qq186 hb);replace HO_539002:=am (Kd.R_below qq185 hb);replace HO_539003:=am (Kd.R_below qq184 hb);replace BK525:=am (blk_below (g:=gb525) (o:=.cells #[.int .i64 t516,.int .i64 t517,.slice Ao10 t518.length co10,.slice Ao11 t521.length co11] 27 (0,0)) qq145 hb);replace BK538:=am (blk_below (g:=gb538) (o:=.cells #[.int .i64 t529,.int .i64 t530,.slice Ao29 t531.length co29,.slice Ao30 t534.length co30] 27 (0,0)) qq144 hb);replace HB:=am (below_step qq94 hb);(try clear hb);(try clear hb2);(try clear hk);(try clear hi)))
           go_meet
           case rel => exact ⟨_,(true),qq225,H',⟨qq219⟩,⟨qq187⟩,⟨qq186⟩,⟨qq185⟩,⟨qq184⟩,⟨qq145⟩,⟨qq144⟩,⟨qq94⟩⟩
          ·rw [if_neg c54] at H;have c54b0 : decide (t544 < t537) = false:=decide_eq_false c54;clear c54
           by_cases c58 : t543 > 0
           ·rw [if_pos c58] at H;have c58b0 : decide (0 < t543) = true:=decide_eq_true c58;clear c58;replace H:=bS.mp H;obtain ⟨t545,A590,H⟩:=H;replace H : (laws_FnRations.j2 kj23 l0 (decide (t545 ≥ t537))) = some r:=H;have A59:=am A590;clear A590;have H':=am H;clear H;have hnb60:=NB538_525.out;have hnc60:=NB525_538.out;obtain ⟨hcz61_0,hcz61_1,hcz61_2,hcz61_3,hfz61_0,hfz61_1,hfz61_2,hfz61_3⟩:=bcl4 BK538.out;go_wp2_with (first | (go_at_call 16;(with_reducible refine (impl_LastsDays.calls kj23 t529 t530 _ _ t531 _ _ t534 t543 t544 _ ?side1 ?side2 ?side3 ?side4 A53.out).mono ?_);(case side1 => exact qq102);(case side2 => exact qq228);(case side3 => exact qq101);(case side4 => exact qq227);rintro e w62 ⟨rfl,hb⟩;replace HO_526002:=am (Kd.R_below qq187 hb);replace HO_526003:=am (Kd.R_below qq186 hb);replace HO_539002:=am (Kd.R_below qq185 hb);replace HO_539003:=am (Kd.R_below qq184 hb);replace BK525:=am (blk_below (g:=gb525) (o:=.cells #[.int .i64 t516,.int .i64 t517,.slice Ao10 t518.length co10,.slice Ao11 t521.length co11] 27 (0,0)) qq145 hb);replace BK538:=am (blk_below (g:=gb538) (o:=.cells #[.int .i64 t529,.int .i64 t530,.slice Ao29 t531.length co29,.slice Ao30 t534.length co30] 27 (0,0)) qq144 hb);replace HB:=am (below_step qq94 hb);(try clear hb);(try clear hb2);(try clear hk);(try clear hi);obtain ⟨hcz63_0,hcz63_1,hcz63_2,hcz63_3,hfz63_0,hfz63_1,hfz63_2,hfz63_3⟩:=bcl4 BK538.out) | (go_at_call 16;(with_reducible refine (impl_LastsDays.calls kj23 t529 t530 _ _ t531 _ _ t534 (wrap64 (t543 - 1)) t545 _ ?side1 ?side2 ?side3 ?side4 A59.out).mono ?_);(case side1 => exact qq102);(case side2 => exact qq228);(case side3 => exact qq101);(case side4 => exact qq227);rintro e w64 ⟨rfl,hb⟩;replace HO_526002:=am (Kd.R_below qq187 hb);replace HO_526003:=am (Kd.R_below qq186 hb);replace HO_539002:=am (Kd.R_below qq185 hb);replace HO_539003:=am (Kd.R_below qq184 hb);replace BK525:=am (blk_below (g:=gb525) (o:=.cells #[.int .i64 t516,.int .i64 t517,.slice Ao10 t518.length co10,.slice Ao11 t521.length co11] 27 (0,0)) qq145 hb);replace BK538:=am (blk_below (g:=gb538) (o:=.cells #[.int .i64 t529,.int .i64 t530,.slice Ao29 t531.length co29,.slice Ao30 t534.length co30] 27 (0,0)) qq144 hb);replace HB:=am (below_step qq94 hb);(try clear hb);(try clear hb2);(try clear hk);(try clear hi)))
            go_meet
            case rel => exact ⟨_,(decide (t545 ≥ t537)),qq225,H',⟨qq219⟩,⟨qq187⟩,⟨qq186⟩,⟨qq185⟩,⟨qq184⟩,⟨qq145⟩,⟨qq144⟩,⟨qq94⟩⟩
           ·rw [if_neg c58] at H;have c58b0 : decide (0 < t543) = false:=decide_eq_false c58;clear c58;have H':=am H;clear H;have hnb65:=NB538_525.out;have hnc65:=NB525_538.out;obtain ⟨hcz66_0,hcz66_1,hcz66_2,hcz66_3,hfz66_0,hfz66_1,hfz66_2,hfz66_3⟩:=bcl4 BK538.out;go_wp2_with (first | (go_at_call 16;(with_reducible refine (impl_LastsDays.calls kj23 t529 t530 _ _ t531 _ _ t534 t543 t544 _ ?side1 ?side2 ?side3 ?side4 A53.out).mono ?_);(case side1 => exact qq102);(case side2 => exact qq228);(case side3 => exact qq101);(case side4 => exact qq227);rintro e w67 ⟨rfl,hb⟩;replace HO_526002:=am (Kd.R_below qq187 hb);replace HO_526003:=am (Kd.R_below qq186 hb);replace HO_539002:=am (Kd.R_below qq185 hb);replace HO_539003:=am (Kd.R_below qq184 hb);replace BK525:=am (blk_below (g:=gb525) (o:=.cells #[.int .i64 t516,.int .i64 t517,.slice Ao10 t518.length co10,.slice Ao11 t521.length co11] 27 (0,0)) qq145 hb);replace BK538:=am (blk_below (g:=gb538) (o:=.cells #[.int .i64 t529,.int .i64 t530,.slice Ao29 t531.length co29,.slice Ao30 t534.length co30] 27 (0,0)) qq144 hb);replace HB:=am (below_step qq94 hb);(try clear hb);(try clear hb2);(try clear hk);(try clear hi)))
            go_meet
            case rel => exact ⟨_,(false),qq225,H',⟨qq219⟩,⟨qq187⟩,⟨qq186⟩,⟨qq185⟩,⟨qq184⟩,⟨qq145⟩,⟨qq144⟩,⟨qq94⟩⟩
         ·rw [if_neg c52] at H;have c52b0 : decide (0 ≤ t543) = false:=decide_eq_false c52;clear c52;(first | rw [c52b0] | (simp only [i64_w,i32_w];rw [c52b0]) | skip);have H':=am H;clear H;go_wp2
          go_meet
          case rel => exact ⟨_,(false),qq225,H',⟨qq219⟩,⟨qq187⟩,⟨qq186⟩,⟨qq185⟩,⟨qq184⟩,⟨qq145⟩,⟨qq144⟩,⟨qq94⟩⟩
        case rest =>
         clear HC48
         try clear c1
         try clear c2
         try clear p2
         try clear c3
         try clear c4
         try clear c5
         try clear c6
         try clear p6
         try clear c13
         try clear c13b0
         try clear c14
         try clear c15
         try clear c15b0
         try clear c16
         try clear c17
         try clear c22
         try clear c27
         try clear c33
         try clear c33b0
         try clear c46
         try clear c49
         try clear c52
         try clear c52b0
         try clear c54
         try clear c54b0
         try clear c55
         try clear c58
         try clear c58b0
         try clear c60
         try clear p64
         try clear c65
         try clear hcz28_0
         try clear hcz28_1
         try clear hcz28_2
         try clear hcz28_3
         try clear hcz50_0
         try clear hcz50_1
         try clear hcz50_2
         try clear hcz50_3
         try clear hcz56_0
         try clear hcz56_1
         try clear hcz56_2
         try clear hcz56_3
         try clear hcz61_0
         try clear hcz61_1
         try clear hcz61_2
         try clear hcz61_3
         try clear hcz63_0
         try clear hcz63_1
         try clear hcz63_2
         try clear hcz63_3
         try clear hcz66_0
         try clear hcz66_1
         try clear hcz66_2
         try clear hcz66_3
         try clear hfz28_0
         try clear hfz28_1
         try clear hfz28_2
         try clear hfz28_3
         try clear hfz50_0
         try clear hfz50_1
         try clear hfz50_2
         try clear hfz50_3
         try clear hfz56_0
         try clear hfz56_1
         try clear hfz56_2
         try clear hfz56_3
         try clear hfz61_0
         try clear hfz61_1
         try clear hfz61_2
         try clear hfz61_3
         try clear hfz63_0
         try clear hfz63_1
         try clear hfz63_2
         try clear hfz63_3
         try clear hfz66_0
         try clear hfz66_1
         try clear hfz66_2
         try clear hfz66_3
         try clear p2
         try clear p6
         obtain ⟨kq,x87_47,rfl,HA,HJ47,HO_526002,HO_526003,HO_539002,HO_539003,BK525,BK538,HB⟩:=hcut
         cases kq with
         | zero => exact absurd HA.out (by simp [laws_FnRations.j2])
         | succ kj47 =>
          have H:=HA.out;clear HA;simp only [laws_FnRations.j2] at H
          by_cases c68 : x87_47 = true
          ·subst c68;have H1 : (some false) = some r:=by rw [if_pos rfl] at H;exact H
           clear H;have H:=H1;clear H1;obtain rfl:=Option.some.inj H;go_wp2
           go_ret
           exact ⟨qq180,qq94⟩
          ·replace c68:=Bool.eq_false_iff.mpr c68;subst c68;have H1 : ((spec_DrawNeedAt.f kj47 l0).bind fun bt546 => ((impl_NeedAt.f kj47 bt546.1 bt546.2).bind fun t550 => (if t550 ≥ 0 then ((impl_NeedOf.f kj47 bt546.1).bind fun t551 => (if t550 ≤ t551 then ((impl_LevelName.f bt546.2).bind fun t552 => (if bt546.2 < 0 then (some ((t552.toList == ([] : List UInt8)) == true)) else (some ((t552.toList == ([] : List UInt8)) == (decide (bt546.2 > 2)))))) else (some false))) else (some false)))) = some r:=by rw [if_neg (show ¬ (false = true) by decide)] at H;exact H
           clear H;have H:=H1;clear H1;replace H:=bS.mp H;obtain ⟨⟨t546,t547⟩,A690,H⟩:=H;replace H : ((impl_NeedAt.f kj47 t546 t547).bind fun t550 => (if t550 ≥ 0 then ((impl_NeedOf.f kj47 t546).bind fun t551 => (if t550 ≤ t551 then ((impl_LevelName.f t547).bind fun t552 => (if t547 < 0 then (some ((t552.toList == ([] : List UInt8)) == true)) else (some ((t552.toList == ([] : List UInt8)) == (decide (t547 > 2)))))) else (some false))) else (some false))) = some r:=H;have A69:=am A690;clear A690;replace H:=bS.mp H;obtain ⟨t550,A700,H⟩:=H;replace H : (if t550 ≥ 0 then ((impl_NeedOf.f kj47 t546).bind fun t551 => (if t550 ≤ t551 then ((impl_LevelName.f t547).bind fun t552 => (if t547 < 0 then (some ((t552.toList == ([] : List UInt8)) == true)) else (some ((t552.toList == ([] : List UInt8)) == (decide (t547 > 2)))))) else (some false))) else (some false)) = some r:=H;have A70:=am A700;clear A700
           by_cases c71 : t550 ≥ 0
           ·rw [if_pos c71] at H;have c71b0 : decide (0 ≤ t550) = true:=decide_eq_true c71;clear c71;replace H:=bS.mp H;obtain ⟨t551,A720,H⟩:=H;replace H : (if t550 ≤ t551 then ((impl_LevelName.f t547).bind fun t552 => (if t547 < 0 then (some ((t552.toList == ([] : List UInt8)) == true)) else (some ((t552.toList == ([] : List UInt8)) == (decide (t547 > 2)))))) else (some false)) = some r:=H;have A72:=am A720;clear A720
            by_cases c73 : t550 ≤ t551
            ·rw [if_pos c73] at H;have c73b0 : decide (t550 ≤ t551) = true:=decide_eq_true c73;clear c73;replace H:=bS.mp H;obtain ⟨t552,A740,H⟩:=H;replace H : (if t547 < 0 then (some ((t552.toList == ([] : List UInt8)) == true)) else (some ((t552.toList == ([] : List UInt8)) == (decide (t547 > 2))))) = some r:=H;have A74:=am A740;clear A740
             by_cases c75 : t547 < 0
             ·rw [if_pos c75] at H;have c75b0 : decide (t547 < 0) = true:=decide_eq_true c75;clear c75;obtain rfl:=Option.some.inj H;go_wp2_with (first | ((with_reducible refine gate_callee (f:=18) rfl ?_);refine goesL_ (some 90) rfl rfl Try.func18 (by kernel_rfl) rfl #[.slice A0 l0.length c0] rfl qq137 ?_;(with_reducible refine (spec_DrawNeedAt.calls kj47 _ _ l0 t546 t547 _ ?side1 ?side2 A69.out).mono ?_);(case side1 => exact qq110);(case side2 => exact HC0.out);rintro e w76 ⟨v548,rfl,ho0,hb⟩;refine ⟨_,rfl,?_⟩;replace HO_526003:=am (Kd.R_below qq186 hb);replace HO_539003:=am (Kd.R_below qq184 hb);have HO549:=am (Kd.R_lower (Kd.R_new' (Kd.R_new' ho0 (Kd.R_lt qq187)) (Kd.R_lt qq185)) (below_size qq94));replace HO_526002:=am (Kd.R_elder' qq187 (Kd.R_base ho0) hb);replace HO_539002:=am (Kd.R_elder' qq185 (Kd.R_base ho0) hb);replace BK525:=am (blk_below (g:=gb525) (o:=.cells #[.int .i64 t516,.int .i64 t517,.slice Ao10 t518.length co10,.slice Ao11 t521.length co11] 27 (0,0)) qq145 hb);replace BK538:=am (blk_below (g:=gb538) (o:=.cells #[.int .i64 t529,.int .i64 t530,.slice Ao29 t531.length co29,.slice Ao30 t534.length co30] 27 (0,0)) qq144 hb);replace HB:=am (below_step qq94 hb);(try clear hb);(try clear hb2);(try clear hk);(try clear hi);(try clear ho0);obtain ⟨Ao77,co77,eo77⟩:=Kd.R_slice HO549.out;subst eo77) | ((with_reducible refine gate_callee (f:=14) rfl ?_);refine goesL_ (some 95) rfl rfl Try.func14 (by kernel_rfl) rfl #[.slice Ao77 t546.length co77,.int .i64 t547] rfl qq137 ?_;(with_reducible refine (impl_NeedAt.calls kj47 _ _ t546 t547 t550 _ ?side1 ?side2 A70.out).mono ?_);(case side1 => exact qq105);(case side2 => exact qq231);rintro e w78 ⟨rfl,hb⟩;refine ⟨_,rfl,?_⟩;replace HO_526002:=am (Kd.R_below qq187 hb);replace HO_526003:=am (Kd.R_below qq186 hb);replace HO_539002:=am (Kd.R_below qq185 hb);replace HO_539003:=am (Kd.R_below qq184 hb);replace HO549:=am (Kd.R_below qq189 hb);replace BK525:=am (blk_below (g:=gb525) (o:=.cells #[.int .i64 t516,.int .i64 t517,.slice Ao10 t518.length co10,.slice Ao11 t521.length co11] 27 (0,0)) qq145 hb);replace BK538:=am (blk_below (g:=gb538) (o:=.cells #[.int .i64 t529,.int .i64 t530,.slice Ao29 t531.length co29,.slice Ao30 t534.length co30] 27 (0,0)) qq144 hb);replace HB:=am (below_step qq94 hb);(try clear hb);(try clear hb2);(try clear hk);(try clear hi)) | (go_at_call 19;(with_reducible refine (impl_NeedOf.calls kj47 _ _ t546 t551 _ ?side1 ?side2 A72.out).mono ?_);(case side1 => exact qq105);(case side2 => exact qq231);rintro e w79 ⟨rfl,hb⟩;replace HO_526002:=am (Kd.R_below qq187 hb);replace HO_526003:=am (Kd.R_below qq186 hb);replace HO_539002:=am (Kd.R_below qq185 hb);replace HO_539003:=am (Kd.R_below qq184 hb);replace HO549:=am (Kd.R_below qq189 hb);replace BK525:=am (blk_below (g:=gb525) (o:=.cells #[.int .i64 t516,.int .i64 t517,.slice Ao10 t518.length co10,.slice Ao11 t521.length co11] 27 (0,0)) qq145 hb);replace BK538:=am (blk_below (g:=gb538) (o:=.cells #[.int .i64 t529,.int .i64 t530,.slice Ao29 t531.length co29,.slice Ao30 t534.length co30] 27 (0,0)) qq144 hb);replace HB:=am (below_step qq94 hb);(try clear hb);(try clear hb2);(try clear hk);(try clear hi)) | (go_at_call 20;(with_reducible refine (impl_LevelName.calls t547 t552 _ A74.out).mono ?_);rintro e w80 ⟨rfl,hb⟩;replace HO_526002:=am (Kd.R_below qq187 hb);replace HO_526003:=am (Kd.R_below qq186 hb);replace HO_539002:=am (Kd.R_below qq185 hb);replace HO_539003:=am (Kd.R_below qq184 hb);replace HO549:=am (Kd.R_below qq189 hb);replace BK525:=am (blk_below (g:=gb525) (o:=.cells #[.int .i64 t516,.int .i64 t517,.slice Ao10 t518.length co10,.slice Ao11 t521.length co11] 27 (0,0)) qq145 hb);replace BK538:=am (blk_below (g:=gb538) (o:=.cells #[.int .i64 t529,.int .i64 t530,.slice Ao29 t531.length co29,.slice Ao30 t534.length co30] 27 (0,0)) qq144 hb);replace HB:=am (below_step qq94 hb);(try clear hb);(try clear hb2);(try clear hk);(try clear hi)))
              go_ret
              exact ⟨qq180,qq94⟩
             ·rw [if_neg c75] at H;have c75b0 : decide (t547 < 0) = false:=decide_eq_false c75;clear c75;obtain rfl:=Option.some.inj H;go_wp2_with (first | ((with_reducible refine gate_callee (f:=18) rfl ?_);refine goesL_ (some 90) rfl rfl Try.func18 (by kernel_rfl) rfl #[.slice A0 l0.length c0] rfl qq137 ?_;(with_reducible refine (spec_DrawNeedAt.calls kj47 _ _ l0 t546 t547 _ ?side1 ?side2 A69.out).mono ?_);(case side1 => exact qq110);(case side2 => exact HC0.out);rintro e w81 ⟨v548,rfl,ho0,hb⟩;refine ⟨_,rfl,?_⟩;replace HO_526003:=am (Kd.R_below qq186 hb);replace HO_539003:=am (Kd.R_below qq184 hb);have HO549:=am (Kd.R_lower (Kd.R_new' (Kd.R_new' ho0 (Kd.R_lt qq187)) (Kd.R_lt qq185)) (below_size qq94));replace HO_526002:=am (Kd.R_elder' qq187 (Kd.R_base ho0) hb);replace HO_539002:=am (Kd.R_elder' qq185 (Kd.R_base ho0) hb);replace BK525:=am (blk_below (g:=gb525) (o:=.cells #[.int .i64 t516,.int .i64 t517,.slice Ao10 t518.length co10,.slice Ao11 t521.length co11] 27 (0,0)) qq145 hb);replace BK538:=am (blk_below (g:=gb538) (o:=.cells #[.int .i64 t529,.int .i64 t530,.slice Ao29 t531.length co29,.slice Ao30 t534.length co30] 27 (0,0)) qq144 hb);replace HB:=am (below_step qq94 hb);(try clear hb);(try clear hb2);(try clear hk);(try clear hi);(try clear ho0);obtain ⟨Ao82,co82,eo82⟩:=Kd.R_slice HO549.out;subst eo82) | ((with_reducible refine gate_callee (f:=14) rfl ?_);refine goesL_ (some 95) rfl rfl Try.func14 (by kernel_rfl) rfl #[.slice Ao82 t546.length co82,.int .i64 t547] rfl qq137 ?_;(with_reducible refine (impl_NeedAt.calls kj47 _ _ t546 t547 t550 _ ?side1 ?side2 A70.out).mono ?_);(case side1 => exact qq105);(case side2 => exact qq231);rintro e w83 ⟨rfl,hb⟩;refine ⟨_,rfl,?_⟩;replace HO_526002:=am (Kd.R_below qq187 hb);replace HO_526003:=am (Kd.R_below qq186 hb);replace HO_539002:=am (Kd.R_below qq185 hb);replace HO_539003:=am (Kd.R_below qq184 hb);replace HO549:=am (Kd.R_below qq189 hb);replace BK525:=am (blk_below (g:=gb525) (o:=.cells #[.int .i64 t516,.int .i64 t517,.slice Ao10 t518.length co10,.slice Ao11 t521.length co11] 27 (0,0)) qq145 hb);replace BK538:=am (blk_below (g:=gb538) (o:=.cells #[.int .i64 t529,.int .i64 t530,.slice Ao29 t531.length co29,.slice Ao30 t534.length co30] 27 (0,0)) qq144 hb);replace HB:=am (below_step qq94 hb);(try clear hb);(try clear hb2);(try clear hk);(try clear hi)) | (go_at_call 19;(with_reducible refine (impl_NeedOf.calls kj47 _ _ t546 t551 _ ?side1 ?side2 A72.out).mono ?_);(case side1 => exact qq105);(case side2 => exact qq231);rintro e w84 ⟨rfl,hb⟩;replace HO_526002:=am (Kd.R_below qq187 hb);replace HO_526003:=am (Kd.R_below qq186 hb);replace HO_539002:=am (Kd.R_below qq185 hb);replace HO_539003:=am (Kd.R_below qq184 hb);replace HO549:=am (Kd.R_below qq189 hb);replace BK525:=am (blk_below (g:=gb525) (o:=.cells #[.int .i64 t516,.int .i64 t517,.slice Ao10 t518.length co10,.slice Ao11 t521.length co11] 27 (0,0)) qq145 hb);replace BK538:=am (blk_below (g:=gb538) (o:=.cells #[.int .i64 t529,.int .i64 t530,.slice Ao29 t531.length co29,.slice Ao30 t534.length co30] 27 (0,0)) qq144 hb);replace HB:=am (below_step qq94 hb);(try clear hb);(try clear hb2);(try clear hk);(try clear hi)) | (go_at_call 20;(with_reducible refine (impl_LevelName.calls t547 t552 _ A74.out).mono ?_);rintro e w85 ⟨rfl,hb⟩;replace HO_526002:=am (Kd.R_below qq187 hb);replace HO_526003:=am (Kd.R_below qq186 hb);replace HO_539002:=am (Kd.R_below qq185 hb);replace HO_539003:=am (Kd.R_below qq184 hb);replace HO549:=am (Kd.R_below qq189 hb);replace BK525:=am (blk_below (g:=gb525) (o:=.cells #[.int .i64 t516,.int .i64 t517,.slice Ao10 t518.length co10,.slice Ao11 t521.length co11] 27 (0,0)) qq145 hb);replace BK538:=am (blk_below (g:=gb538) (o:=.cells #[.int .i64 t529,.int .i64 t530,.slice Ao29 t531.length co29,.slice Ao30 t534.length co30] 27 (0,0)) qq144 hb);replace HB:=am (below_step qq94 hb);(try clear hb);(try clear hb2);(try clear hk);(try clear hi)))
              go_ret
              exact ⟨qq180,qq94⟩
            ·rw [if_neg c73] at H;have c73b0 : decide (t550 ≤ t551) = false:=decide_eq_false c73;clear c73;obtain rfl:=Option.some.inj H;go_wp2_with (first | ((with_reducible refine gate_callee (f:=18) rfl ?_);refine goesL_ (some 90) rfl rfl Try.func18 (by kernel_rfl) rfl #[.slice A0 l0.length c0] rfl qq137 ?_;(with_reducible refine (spec_DrawNeedAt.calls kj47 _ _ l0 t546 t547 _ ?side1 ?side2 A69.out).mono ?_);(case side1 => exact qq110);(case side2 => exact HC0.out);rintro e w86 ⟨v548,rfl,ho0,hb⟩;refine ⟨_,rfl,?_⟩;replace HO_526003:=am (Kd.R_below qq186 hb);replace HO_539003:=am (Kd.R_below qq184 hb);have HO549:=am (Kd.R_lower (Kd.R_new' (Kd.R_new' ho0 (Kd.R_lt qq187)) (Kd.R_lt qq185)) (below_size qq94));replace HO_526002:=am (Kd.R_elder' qq187 (Kd.R_base ho0) hb);replace HO_539002:=am (Kd.R_elder' qq185 (Kd.R_base ho0) hb);replace BK525:=am (blk_below (g:=gb525) (o:=.cells #[.int .i64 t516,.int .i64 t517,.slice Ao10 t518.length co10,.slice Ao11 t521.length co11] 27 (0,0)) qq145 hb);replace BK538:=am (blk_below (g:=gb538) (o:=.cells #[.int .i64 t529,.int .i64 t530,.slice Ao29 t531.length co29,.slice Ao30 t534.length co30] 27 (0,0)) qq144 hb);replace HB:=am (below_step qq94 hb);(try clear hb);(try clear hb2);(try clear hk);(try clear hi);(try clear ho0);obtain ⟨Ao87,co87,eo87⟩:=Kd.R_slice HO549.out;subst eo87) | ((with_reducible refine gate_callee (f:=14) rfl ?_);refine goesL_ (some 95) rfl rfl Try.func14 (by kernel_rfl) rfl #[.slice Ao87 t546.length co87,.int .i64 t547] rfl qq137 ?_;(with_reducible refine (impl_NeedAt.calls kj47 _ _ t546 t547 t550 _ ?side1 ?side2 A70.out).mono ?_);(case side1 => exact qq105);(case side2 => exact qq231);rintro e w88 ⟨rfl,hb⟩;refine ⟨_,rfl,?_⟩;replace HO_526002:=am (Kd.R_below qq187 hb);replace HO_526003:=am (Kd.R_below qq186 hb);replace HO_539002:=am (Kd.R_below qq185 hb);replace HO_539003:=am (Kd.R_below qq184 hb);replace HO549:=am (Kd.R_below qq189 hb);replace BK525:=am (blk_below (g:=gb525) (o:=.cells #[.int .i64 t516,.int .i64 t517,.slice Ao10 t518.length co10,.slice Ao11 t521.length co11] 27 (0,0)) qq145 hb);replace BK538:=am (blk_below (g:=gb538) (o:=.cells #[.int .i64 t529,.int .i64 t530,.slice Ao29 t531.length co29,.slice Ao30 t534.length co30] 27 (0,0)) qq144 hb);replace HB:=am (below_step qq94 hb);(try clear hb);(try clear hb2);(try clear hk);(try clear hi)) | (go_at_call 19;(with_reducible refine (impl_NeedOf.calls kj47 _ _ t546 t551 _ ?side1 ?side2 A72.out).mono ?_);(case side1 => exact qq105);(case side2 => exact qq231);rintro e w89 ⟨rfl,hb⟩;replace HO_526002:=am (Kd.R_below qq187 hb);replace HO_526003:=am (Kd.R_below qq186 hb);replace HO_539002:=am (Kd.R_below qq185 hb);replace HO_539003:=am (Kd.R_below qq184 hb);replace HO549:=am (Kd.R_below qq189 hb);replace BK525:=am (blk_below (g:=gb525) (o:=.cells #[.int .i64 t516,.int .i64 t517,.slice Ao10 t518.length co10,.slice Ao11 t521.length co11] 27 (0,0)) qq145 hb);replace BK538:=am (blk_below (g:=gb538) (o:=.cells #[.int .i64 t529,.int .i64 t530,.slice Ao29 t531.length co29,.slice Ao30 t534.length co30] 27 (0,0)) qq144 hb);replace HB:=am (below_step qq94 hb);(try clear hb);(try clear hb2);(try clear hk);(try clear hi)))
             go_ret
             exact ⟨qq180,qq94⟩
           ·rw [if_neg c71] at H;have c71b0 : decide (0 ≤ t550) = false:=decide_eq_false c71;clear c71;obtain rfl:=Option.some.inj H;go_wp2_with (first | ((with_reducible refine gate_callee (f:=18) rfl ?_);refine goesL_ (some 90) rfl rfl Try.func18 (by kernel_rfl) rfl #[.slice A0 l0.length c0] rfl qq137 ?_;(with_reducible refine (spec_DrawNeedAt.calls kj47 _ _ l0 t546 t547 _ ?side1 ?side2 A69.out).mono ?_);(case side1 => exact qq110);(case side2 => exact HC0.out);rintro e w90 ⟨v548,rfl,ho0,hb⟩;refine ⟨_,rfl,?_⟩;replace HO_526003:=am (Kd.R_below qq186 hb);replace HO_539003:=am (Kd.R_below qq184 hb);have HO549:=am (Kd.R_lower (Kd.R_new' (Kd.R_new' ho0 (Kd.R_lt qq187)) (Kd.R_lt qq185)) (below_size qq94));replace HO_526002:=am (Kd.R_elder' qq187 (Kd.R_base ho0) hb);replace HO_539002:=am (Kd.R_elder' qq185 (Kd.R_base ho0) hb);replace BK525:=am (blk_below (g:=gb525) (o:=.cells #[.int .i64 t516,.int .i64 t517,.slice Ao10 t518.length co10,.slice Ao11 t521.length co11] 27 (0,0)) qq145 hb);replace BK538:=am (blk_below (g:=gb538) (o:=.cells #[.int .i64 t529,.int .i64 t530,.slice Ao29 t531.length co29,.slice Ao30 t534.length co30] 27 (0,0)) qq144 hb);replace HB:=am (below_step qq94 hb);(try clear hb);(try clear hb2);(try clear hk);(try clear hi);(try clear ho0);obtain ⟨Ao91,co91,eo91⟩:=Kd.R_slice HO549.out;subst eo91) | ((with_reducible refine gate_callee (f:=14) rfl ?_);refine goesL_ (some 95) rfl rfl Try.func14 (by kernel_rfl) rfl #[.slice Ao91 t546.length co91,.int .i64 t547] rfl qq137 ?_;(with_reducible refine (impl_NeedAt.calls kj47 _ _ t546 t547 t550 _ ?side1 ?side2 A70.out).mono ?_);(case side1 => exact qq105);(case side2 => exact qq231);rintro e w92 ⟨rfl,hb⟩;refine ⟨_,rfl,?_⟩;replace HO_526002:=am (Kd.R_below qq187 hb);replace HO_526003:=am (Kd.R_below qq186 hb);replace HO_539002:=am (Kd.R_below qq185 hb);replace HO_539003:=am (Kd.R_below qq184 hb);replace HO549:=am (Kd.R_below qq189 hb);replace BK525:=am (blk_below (g:=gb525) (o:=.cells #[.int .i64 t516,.int .i64 t517,.slice Ao10 t518.length co10,.slice Ao11 t521.length co11] 27 (0,0)) qq145 hb);replace BK538:=am (blk_below (g:=gb538) (o:=.cells #[.int .i64 t529,.int .i64 t530,.slice Ao29 t531.length co29,.slice Ao30 t534.length co30] 27 (0,0)) qq144 hb);replace HB:=am (below_step qq94 hb);(try clear hb);(try clear hb2);(try clear hk);(try clear hi)))
            go_ret
            exact ⟨qq180,qq94⟩

/-- THE ONE PURE STATEMENT of laws_FnRations: yours. -/
def laws_FnRations.Pure : Prop := ∀ (l0 : List Int), l0.length ≤ maxLen → l0.length * 1 ≤ 140737488351232 → (∀ x ∈ l0, (Lit.int .u8 x).wf = true) → ∃ k, laws_FnRations.f k l0 = some true
theorem laws_FnRations.walk (P : laws_FnRations.Pure) (a0 : Option Addr) (len0 cap0 : Nat) (z0 : List Int) (w : World) (w0 : (a0 = none ∧ len0 = 0 ∧ cap0 = 0 ∧ z0 = []) ∨ ∃ x, a0 = some x ∧ len0 ≤ cap0 ∧ cap0 ≤ maxLen ∧ z0.length = cap0 ∧ (∀ i, i < z0.length → w.cell? (x.add i) = some (.int .u8 (z0.getD i 0))) ∧ ∀ n ∈ z0, (Lit.int .u8 n).wf = true) (y0 : len0 * 1 ≤ 140737488351232) :
  Calls Try.prog 3 #[.slice a0 len0 cap0] w fun e w' => e = .returned (.bool true) ∧ Below w.heap.size w w':=by
 obtain ⟨l0,rfl,hr0,hm0,hw0,hc0⟩:=ReadsInt.ofRowC w0
 obtain ⟨k,h⟩:=P l0 hm0 y0 hw0
 refine (laws_FnRations.calls k _ _ l0 true w (Kd.C_of_reads (d:=(0 : Int)) (h1:=fun _ => rfl) hr0) hc0 h).mono ?_
 rintro e w' ⟨rfl,hd⟩
 exact ⟨rfl,hd⟩

end Go.Proofs.Ytcbkknpmeknppaa.PFnRations
