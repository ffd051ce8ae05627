/- Contracts of functions that the law FnExactMoveTo reaches, for its row: lines that the kit's printer wrote for this claim, set shorter by a program of this session (own.py), and what fell in Lean proved anew. Lean checks them. -/
import Derived.Test.YtnghncedinngoaaSFnExactMoveTox0
import Derived.Test.YtnghncedinngoaaSFnExactMoveTox1
namespace Go.Proofs.Ytnghncedinngoaa.PFnExactMoveTo
open Go.RowKit Go.Proofs.YtnghncedinngoaaW.PrintWords Go.Proofs.YtnghncedinngoaaW.PrintLast Go.Proofs.YtnghncedinngoaaW.PrintMore
attribute [local go_sem] max2_int min2_int max_two min_two max_three min_three max_four min_four   -- for this text's walks alone
set_option linter.unusedVariables false
set_option linter.unusedSimpArgs false

abbrev m0_2 : Array Bool := #[Z,Z,Z,Z,Z,Z,Z,Z,Z,Z,Z,Z,Z,Z,Z,Z,Z,Z,Z,Z,Z,Z,Z,Z,Z,Z,Z,Z,Z,Z,Z,Z,Z,Z,Z,Z,Z,Z,Z,Z,Z,Z,Z,Z,Z,Z,Z,Z]
abbrev m1_2 : Array Bool := #[Y,Z,Z,Z,Z,Z,Z,Z,Z,Z,Z,Z,Z,Z,Z,Z,Z,Z,Z,Z,Z,Z,Z,Z,Z,Z,Z,Z,Z,Z,Z,Z,Z,Z,Z,Z,Z,Z,Z,Z,Z,Z,Z,Z,Z,Z,Z,Z]
abbrev m2_2 : Array Bool := #[Y,Y,Z,Z,Z,Z,Z,Z,Z,Z,Z,Z,Z,Z,Z,Z,Z,Z,Z,Z,Z,Z,Z,Z,Z,Z,Z,Z,Z,Z,Z,Z,Z,Z,Z,Z,Z,Z,Z,Z,Z,Z,Z,Z,Z,Z,Z,Z]
abbrev m3_2 : Array Bool := #[Y,Y,Y,Z,Z,Z,Z,Z,Z,Z,Z,Z,Z,Z,Z,Z,Z,Z,Z,Z,Z,Z,Z,Z,Z,Z,Z,Z,Z,Z,Z,Z,Z,Z,Z,Z,Z,Z,Z,Z,Z,Z,Z,Z,Z,Z,Z,Z]
abbrev m4_2 : Array Bool := #[Y,Y,Y,Y,Z,Z,Z,Z,Z,Z,Z,Z,Z,Z,Z,Z,Z,Z,Z,Z,Z,Z,Z,Z,Z,Z,Z,Z,Z,Z,Z,Z,Z,Z,Z,Z,Z,Z,Z,Z,Z,Z,Z,Z,Z,Z,Z,Z]
abbrev m5_2 : Array Bool := #[Y,Y,Y,Y,Y,Z,Z,Z,Z,Z,Z,Z,Z,Z,Z,Z,Z,Z,Z,Z,Z,Z,Z,Z,Z,Z,Z,Z,Z,Z,Z,Z,Z,Z,Z,Z,Z,Z,Z,Z,Z,Z,Z,Z,Z,Z,Z,Z]
abbrev m6_2 : Array Bool := #[Y,Y,Y,Y,Y,Y,Z,Z,Z,Z,Z,Z,Z,Z,Z,Z,Z,Z,Z,Z,Z,Z,Z,Z,Z,Z,Z,Z,Z,Z,Z,Z,Z,Z,Z,Z,Z,Z,Z,Z,Z,Z,Z,Z,Z,Z,Z,Z]
abbrev m7_2 : Array Bool := #[Y,Y,Y,Y,Y,Y,Y,Z,Z,Z,Z,Z,Z,Z,Z,Z,Z,Z,Z,Z,Z,Z,Z,Z,Z,Z,Z,Z,Z,Z,Z,Z,Z,Z,Z,Z,Z,Z,Z,Z,Z,Z,Z,Z,Z,Z,Z,Z]
abbrev m8_2 : Array Bool := #[Y,Y,Y,Y,Y,Y,Y,Y,Z,Z,Z,Z,Z,Z,Z,Z,Z,Z,Z,Z,Z,Z,Z,Z,Z,Z,Z,Z,Z,Z,Z,Z,Z,Z,Z,Z,Z,Z,Z,Z,Z,Z,Z,Z,Z,Z,Z,Z]
abbrev m9_2 : Array Bool := #[Y,Y,Y,Y,Y,Y,Y,Y,Y,Z,Z,Z,Z,Z,Z,Z,Z,Z,Z,Z,Z,Z,Z,Z,Z,Z,Z,Z,Z,Z,Z,Z,Z,Z,Z,Z,Z,Z,Z,Z,Z,Z,Z,Z,Z,Z,Z,Z]
abbrev m10_2 : Array Bool := #[Y,Y,Y,Y,Y,Y,Y,Y,Y,Y,Z,Z,Z,Z,Z,Z,Z,Z,Z,Z,Z,Z,Z,Z,Z,Z,Z,Z,Z,Z,Z,Z,Z,Z,Z,Z,Z,Z,Z,Z,Z,Z,Z,Z,Z,Z,Z,Z]
abbrev m11_2 : Array Bool := #[Y,Y,Y,Y,Y,Y,Y,Y,Y,Y,Y,Z,Z,Z,Z,Z,Z,Z,Z,Z,Z,Z,Z,Z,Z,Z,Z,Z,Z,Z,Z,Z,Z,Z,Z,Z,Z,Z,Z,Z,Z,Z,Z,Z,Z,Z,Z,Z]
abbrev m12_2 : Array Bool := #[Y,Y,Y,Y,Y,Y,Y,Y,Y,Y,Y,Y,Z,Z,Z,Z,Z,Z,Z,Z,Z,Z,Z,Z,Z,Z,Z,Z,Z,Z,Z,Z,Z,Z,Z,Z,Z,Z,Z,Z,Z,Z,Z,Z,Z,Z,Z,Z]
abbrev m13_2 : Array Bool := #[Y,Y,Y,Y,Y,Y,Y,Y,Y,Y,Y,Y,Y,Z,Z,Z,Z,Z,Z,Z,Z,Z,Z,Z,Z,Z,Z,Z,Z,Z,Z,Z,Z,Z,Z,Z,Z,Z,Z,Z,Z,Z,Z,Z,Z,Z,Z,Z]
abbrev m14_2 : Array Bool := #[Y,Y,Y,Y,Y,Y,Y,Y,Y,Y,Y,Y,Y,Y,Z,Z,Z,Z,Z,Z,Z,Z,Z,Z,Z,Z,Z,Z,Z,Z,Z,Z,Z,Z,Z,Z,Z,Z,Z,Z,Z,Z,Z,Z,Z,Z,Z,Z]
abbrev m15_2 : Array Bool := #[Y,Y,Y,Y,Y,Y,Y,Y,Y,Y,Y,Y,Y,Y,Y,Z,Z,Z,Z,Z,Z,Z,Z,Z,Z,Z,Z,Z,Z,Z,Z,Z,Z,Z,Z,Z,Z,Z,Z,Z,Z,Z,Z,Z,Z,Z,Z,Z]
abbrev m16_2 : Array Bool := #[Y,Y,Y,Y,Y,Y,Y,Y,Y,Y,Y,Y,Y,Y,Y,Y,Z,Z,Z,Z,Z,Z,Z,Z,Z,Z,Z,Z,Z,Z,Z,Z,Z,Z,Z,Z,Z,Z,Z,Z,Z,Z,Z,Z,Z,Z,Z,Z]
abbrev m17_2 : Array Bool := #[Y,Y,Y,Y,Y,Y,Y,Y,Y,Y,Y,Y,Y,Y,Y,Y,Y,Z,Z,Z,Z,Z,Z,Z,Z,Z,Z,Z,Z,Z,Z,Z,Z,Z,Z,Z,Z,Z,Z,Z,Z,Z,Z,Z,Z,Z,Z,Z]
abbrev m18_2 : Array Bool := #[Y,Y,Y,Y,Y,Y,Y,Y,Y,Y,Y,Y,Y,Y,Y,Y,Y,Y,Z,Z,Z,Z,Z,Z,Z,Z,Z,Z,Z,Z,Z,Z,Z,Z,Z,Z,Z,Z,Z,Z,Z,Z,Z,Z,Z,Z,Z,Z]
abbrev m19_2 : Array Bool := #[Y,Y,Y,Y,Y,Y,Y,Y,Y,Y,Y,Y,Y,Y,Y,Y,Y,Y,Y,Z,Z,Z,Z,Z,Z,Z,Z,Z,Z,Z,Z,Z,Z,Z,Z,Z,Z,Z,Z,Z,Z,Z,Z,Z,Z,Z,Z,Z]
abbrev m20_2 : Array Bool := #[Y,Y,Y,Y,Y,Y,Y,Y,Y,Y,Y,Y,Y,Y,Y,Y,Y,Y,Y,Y,Z,Z,Z,Z,Z,Z,Z,Z,Z,Z,Z,Z,Z,Z,Z,Z,Z,Z,Z,Z,Z,Z,Z,Z,Z,Z,Z,Z]
abbrev m21_2 : Array Bool := #[Y,Y,Y,Y,Y,Y,Y,Y,Y,Y,Y,Y,Y,Y,Y,Y,Y,Y,Y,Y,Y,Z,Z,Z,Z,Z,Z,Z,Z,Z,Z,Z,Z,Z,Z,Z,Z,Z,Z,Z,Z,Z,Z,Z,Z,Z,Z,Z]
abbrev m22_2 : Array Bool := #[Y,Y,Y,Y,Y,Y,Y,Y,Y,Y,Y,Y,Y,Y,Y,Y,Y,Y,Y,Y,Y,Z,Z,Y,Z,Z,Z,Z,Z,Z,Z,Z,Z,Z,Z,Z,Z,Z,Z,Z,Z,Z,Z,Z,Z,Z,Z,Z]
abbrev m23_2 : Array Bool := #[Y,Y,Y,Y,Y,Y,Y,Y,Y,Y,Y,Y,Y,Y,Y,Y,Y,Y,Y,Y,Y,Z,Z,Y,Y,Z,Z,Z,Z,Z,Z,Z,Z,Z,Z,Z,Z,Z,Z,Z,Z,Z,Z,Z,Z,Z,Z,Z]
abbrev m24_2 : Array Bool := #[Y,Y,Y,Y,Y,Y,Y,Y,Y,Y,Y,Y,Y,Y,Y,Y,Y,Y,Y,Y,Y,Z,Z,Y,Y,Y,Z,Z,Z,Z,Z,Z,Z,Z,Z,Z,Z,Z,Z,Z,Z,Z,Z,Z,Z,Z,Z,Z]
abbrev m25_2 : Array Bool := #[Y,Y,Y,Y,Y,Y,Y,Y,Y,Y,Y,Y,Y,Y,Y,Y,Y,Y,Y,Y,Y,Z,Z,Y,Y,Y,Y,Z,Z,Z,Z,Z,Z,Z,Z,Z,Z,Z,Z,Z,Z,Z,Z,Z,Z,Z,Z,Z]
abbrev m26_2 : Array Bool := #[Y,Y,Y,Y,Y,Y,Y,Y,Y,Y,Y,Y,Y,Y,Y,Y,Y,Y,Y,Y,Y,Y,Z,Y,Y,Y,Y,Z,Z,Z,Z,Z,Z,Z,Z,Z,Z,Z,Z,Z,Z,Z,Z,Z,Z,Z,Z,Z]
abbrev m27_2 : Array Bool := #[Y,Y,Y,Y,Y,Y,Y,Y,Y,Y,Y,Y,Y,Y,Y,Y,Y,Y,Y,Y,Y,Y,Y,Y,Y,Y,Y,Z,Z,Z,Z,Z,Z,Z,Z,Z,Z,Z,Z,Z,Z,Z,Z,Z,Z,Z,Z,Z]
abbrev m28_2 : Array Bool := #[Y,Y,Y,Y,Y,Y,Y,Y,Y,Y,Y,Y,Y,Y,Y,Y,Y,Y,Y,Y,Y,Y,Y,Y,Y,Y,Y,Y,Z,Z,Z,Z,Z,Z,Z,Z,Z,Z,Z,Z,Z,Z,Z,Z,Z,Z,Z,Z]
abbrev m29_2 : Array Bool := #[Y,Y,Y,Y,Y,Y,Y,Y,Y,Y,Y,Y,Y,Y,Y,Y,Y,Y,Y,Y,Y,Y,Y,Y,Y,Y,Y,Y,Y,Z,Z,Z,Z,Z,Z,Z,Z,Z,Z,Z,Z,Z,Z,Z,Z,Z,Z,Z]
abbrev m30_2 : Array Bool := #[Y,Y,Y,Y,Y,Y,Y,Y,Y,Y,Y,Y,Y,Y,Y,Y,Y,Y,Y,Y,Y,Y,Y,Y,Y,Y,Y,Y,Y,Y,Z,Z,Z,Z,Z,Z,Z,Z,Z,Z,Z,Z,Z,Z,Z,Z,Z,Z]
abbrev m31_2 : Array Bool := #[Y,Y,Y,Y,Y,Y,Y,Y,Y,Y,Y,Y,Y,Y,Y,Y,Y,Y,Y,Y,Y,Y,Y,Y,Y,Y,Y,Y,Y,Y,Y,Z,Z,Z,Z,Z,Z,Z,Z,Z,Z,Z,Z,Z,Z,Z,Z,Z]
abbrev m32_2 : Array Bool := #[Y,Y,Y,Y,Y,Y,Y,Y,Y,Y,Y,Y,Y,Y,Y,Y,Y,Y,Y,Y,Y,Y,Y,Y,Y,Y,Y,Y,Y,Y,Y,Y,Z,Z,Z,Z,Z,Z,Z,Z,Z,Z,Z,Z,Z,Z,Z,Z]
abbrev m33_2 : Array Bool := #[Y,Y,Y,Y,Y,Y,Y,Y,Y,Y,Y,Y,Y,Y,Y,Y,Y,Y,Y,Y,Y,Y,Y,Y,Y,Y,Y,Y,Y,Y,Y,Y,Y,Z,Z,Z,Z,Z,Z,Z,Z,Z,Z,Z,Z,Z,Z,Z]
abbrev m34_2 : Array Bool := #[Y,Y,Y,Y,Y,Y,Y,Y,Y,Y,Y,Y,Y,Y,Y,Y,Y,Y,Y,Y,Y,Y,Y,Y,Y,Y,Y,Y,Y,Y,Y,Y,Y,Y,Z,Z,Z,Z,Z,Z,Z,Z,Z,Z,Z,Z,Z,Z]
abbrev m35_2 : Array Bool := #[Y,Y,Y,Y,Y,Y,Y,Y,Y,Y,Y,Y,Y,Y,Y,Y,Y,Y,Y,Y,Y,Y,Y,Y,Y,Y,Y,Y,Y,Y,Y,Y,Y,Y,Y,Z,Z,Z,Z,Z,Z,Z,Z,Z,Z,Z,Z,Z]
abbrev m36_2 : Array Bool := #[Y,Y,Y,Y,Y,Y,Y,Y,Y,Y,Y,Y,Y,Y,Y,Y,Y,Y,Y,Y,Y,Y,Y,Y,Y,Y,Y,Y,Y,Y,Y,Y,Y,Y,Y,Y,Z,Z,Z,Z,Z,Z,Z,Z,Z,Z,Z,Z]
abbrev m37_2 : Array Bool := #[Y,Y,Y,Y,Y,Y,Y,Y,Y,Y,Y,Y,Y,Y,Y,Y,Y,Y,Y,Y,Y,Y,Y,Y,Y,Y,Y,Y,Y,Y,Y,Y,Y,Y,Y,Y,Y,Z,Z,Z,Z,Z,Z,Z,Z,Z,Z,Z]
abbrev m38_2 : Array Bool := #[Y,Y,Y,Y,Y,Y,Y,Y,Y,Y,Y,Y,Y,Y,Y,Y,Y,Y,Y,Y,Y,Y,Y,Y,Y,Y,Y,Y,Y,Y,Y,Y,Y,Y,Y,Y,Y,Y,Z,Z,Z,Z,Z,Z,Z,Z,Z,Z]
abbrev m39_2 : Array Bool := #[Y,Y,Y,Y,Y,Y,Y,Y,Y,Y,Y,Y,Y,Y,Y,Y,Y,Y,Y,Y,Y,Y,Y,Y,Y,Y,Y,Y,Y,Y,Y,Y,Y,Y,Y,Y,Y,Y,Y,Z,Z,Z,Z,Z,Z,Z,Z,Z]
abbrev m40_2 : Array Bool := #[Y,Y,Y,Y,Y,Y,Y,Y,Y,Y,Y,Y,Y,Y,Y,Y,Y,Y,Y,Y,Y,Y,Y,Y,Y,Y,Y,Y,Y,Y,Y,Y,Y,Y,Y,Y,Y,Y,Y,Y,Z,Z,Z,Z,Z,Z,Z,Z]
abbrev m41_2 : Array Bool := #[Y,Y,Y,Y,Y,Y,Y,Y,Y,Y,Y,Y,Y,Y,Y,Y,Y,Y,Y,Y,Y,Y,Y,Y,Y,Y,Y,Y,Y,Y,Y,Y,Y,Y,Y,Y,Y,Y,Y,Y,Y,Z,Z,Z,Z,Z,Z,Z]
abbrev m42_2 : Array Bool := #[Y,Y,Y,Y,Y,Y,Y,Y,Y,Y,Y,Y,Y,Y,Y,Y,Y,Y,Y,Y,Y,Y,Y,Y,Y,Y,Y,Y,Y,Y,Y,Y,Y,Y,Y,Y,Y,Y,Y,Y,Y,Y,Z,Z,Z,Z,Z,Z]
abbrev m43_2 : Array Bool := #[Y,Y,Y,Y,Y,Y,Y,Y,Y,Y,Y,Y,Y,Y,Y,Y,Y,Y,Y,Y,Y,Y,Y,Y,Y,Y,Y,Y,Y,Y,Y,Y,Y,Y,Y,Y,Y,Y,Y,Y,Y,Y,Y,Z,Z,Z,Z,Z]
abbrev m44_2 : Array Bool := #[Y,Y,Y,Y,Y,Y,Y,Y,Y,Y,Y,Y,Y,Y,Y,Y,Y,Y,Y,Y,Y,Y,Y,Y,Y,Y,Y,Y,Y,Y,Y,Y,Y,Y,Y,Y,Y,Y,Y,Y,Y,Y,Y,Y,Z,Z,Z,Z]
abbrev m45_2 : Array Bool := #[Y,Y,Y,Y,Y,Y,Y,Y,Y,Y,Y,Y,Y,Y,Y,Y,Y,Y,Y,Y,Y,Y,Y,Y,Y,Y,Y,Y,Y,Y,Y,Y,Y,Y,Y,Y,Y,Y,Y,Y,Y,Y,Y,Y,Y,Z,Z,Z]
abbrev m46_2 : Array Bool := #[Y,Y,Y,Y,Y,Y,Y,Y,Y,Y,Y,Y,Y,Y,Y,Y,Y,Y,Y,Y,Y,Y,Y,Y,Y,Y,Y,Y,Y,Y,Y,Y,Y,Y,Y,Y,Y,Y,Y,Y,Y,Y,Y,Y,Y,Y,Z,Z]
abbrev m47_2 : Array Bool := #[Y,Y,Y,Y,Y,Y,Y,Y,Y,Y,Y,Y,Y,Y,Y,Y,Y,Y,Y,Y,Y,Y,Y,Y,Y,Y,Y,Y,Y,Y,Y,Y,Y,Y,Y,Y,Y,Y,Y,Y,Y,Y,Y,Y,Y,Y,Y,Z]
abbrev m48_2 : Array Bool := #[Y,Y,Y,Y,Y,Y,Y,Y,Y,Y,Y,Y,Y,Y,Y,Y,Y,Y,Y,Y,Y,Y,Y,Y,Y,Y,Y,Y,Y,Y,Y,Y,Y,Y,Y,Y,Y,Y,Y,Y,Y,Y,Y,Y,Y,Y,Y,Y]
abbrev m49_2 : Array Bool := #[Y,Y,Y,Y,Y,Y,Y,Y,Y,Y,Y,Y,Y,Y,Y,Y,Y,Y,Y,Y,Y,Y,Z,Z,Z,Z,Z,Z,Z,Z,Z,Z,Z,Z,Z,Z,Z,Z,Z,Z,Z,Z,Z,Z,Z,Z,Z,Z]
abbrev m50_2 : Array Bool := #[Y,Y,Y,Y,Y,Y,Y,Y,Y,Y,Y,Y,Y,Y,Y,Y,Y,Y,Y,Y,Y,Y,Y,Z,Z,Z,Z,Z,Z,Z,Z,Z,Z,Z,Z,Z,Z,Z,Z,Z,Z,Z,Z,Z,Z,Z,Z,Z]
abbrev m51_2 : Array Bool := #[Y,Y,Y,Y,Y,Y,Y,Y,Y,Y,Y,Y,Y,Y,Y,Y,Y,Y,Y,Y,Y,Y,Y,Y,Z,Z,Z,Z,Z,Z,Z,Z,Z,Z,Z,Z,Z,Z,Z,Z,Z,Z,Z,Z,Z,Z,Z,Z]
abbrev m52_2 : Array Bool := #[Y,Y,Y,Y,Y,Y,Y,Y,Y,Y,Y,Y,Y,Y,Y,Y,Y,Y,Y,Y,Y,Y,Y,Y,Y,Z,Z,Z,Z,Z,Z,Z,Z,Z,Z,Z,Z,Z,Z,Z,Z,Z,Z,Z,Z,Z,Z,Z]
abbrev m53_2 : Array Bool := #[Y,Y,Y,Y,Y,Y,Y,Y,Y,Y,Y,Y,Y,Y,Y,Y,Y,Y,Y,Y,Y,Y,Y,Y,Y,Y,Z,Z,Z,Z,Z,Z,Z,Z,Z,Z,Z,Z,Z,Z,Z,Z,Z,Z,Z,Z,Z,Z]
/-! ### spec_AreTents: function 28 -/
mutual
def spec_AreTents.l0 : Nat → List (S45) → List Int → Int → Option (Bool)
 | 0,_,_,_ => none
 | k + 1,x0,x3,x4 => if x4 < (x0.length : Int) then (if 0 ≤ x4 then ((spec_l1In.f ((rd_T45 x0 x4).f0) 1 99).bind fun t128 => (if t128 = true then ((spec_l1In.f ((rd_T45 x0 x4).f1) 1 6).bind fun t130 => (if t130 = true then (if (((rd_T45 x0 x4).f2).length : Int) > ((rd_T45 x0 x4).f1) then (spec_AreTents.j1 k x0 x3 x4 true) else (if x4 > 0 then (if 0 ≤ (wrap64 (x4 - 1)) then (if (wrap64 (x4 - 1)) < (x0.length : Int) then (spec_AreTents.j1 k x0 x3 x4 (decide (((rd_T45 x0 (wrap64 (x4 - 1))).f0) ≥ ((rd_T45 x0 x4).f0)))) else (none)) else (none)) else (spec_AreTents.j1 k x0 x3 x4 false))) else (spec_AreTents.j1 k x0 x3 x4 true))) else (spec_AreTents.j1 k x0 x3 x4 true))) else (none)) else (some (decide ((x0.length : Int) ≤ 8)))
def spec_AreTents.j1 : Nat → List (S45) → List Int → Int → Bool → Option (Bool)
 | 0,_,_,_,_ => none
 | k + 1,x0,x3,x4,x60 => if x60 = true then (some false) else (spec_AreTents.l1 k x0 x3 x4 0)
def spec_AreTents.l1 : Nat → List (S45) → List Int → Int → Int → Option (Bool)
 | 0,_,_,_,_ => none
 | k + 1,x0,x3,x4,x5 => if 0 ≤ x4 then (if x4 < (x0.length : Int) then (if x5 < (((rd_T45 x0 x4).f2).length : Int) then (if 0 ≤ x5 then ((spec_l14Has.f k x3 (rd ((rd_T45 x0 x4).f2) x5)).bind fun t138 => (if t138 = true then (some false) else (if x3.length < 17592186044416 then (spec_AreTents.l1 k x0 (x3 ++ [rd ((rd_T45 x0 x4).f2) x5]) x4 (wrap64 (x5 + 1))) else (none)))) else (none)) else (spec_AreTents.l0 k x0 x3 (wrap64 (x4 + 1)))) else (none)) else (none)
end
def spec_AreTents.f (k : Nat) (l0 : List (S45)) : Option (Bool) := spec_AreTents.l0 k l0 (([] : List Int)) 0
theorem spec_AreTents.mono_l : ∀ k, (∀ y0 y1 y2, LeO (spec_AreTents.l0 k y0 y1 y2) (spec_AreTents.l0 (k + 1) y0 y1 y2)) ∧ (∀ y0 y1 y2 y3, LeO (spec_AreTents.j1 k y0 y1 y2 y3) (spec_AreTents.j1 (k + 1) y0 y1 y2 y3)) ∧ (∀ y0 y1 y2 y3, LeO (spec_AreTents.l1 k y0 y1 y2 y3) (spec_AreTents.l1 (k + 1) y0 y1 y2 y3))
 | 0 => ⟨fun _ _ _ r h => by simp [spec_AreTents.l0] at h,fun _ _ _ _ r h => by simp [spec_AreTents.j1] at h,fun _ _ _ _ r h => by simp [spec_AreTents.l1] at h⟩
 | k + 1 => by
  obtain ⟨ih0,ih1,ih2⟩:=spec_AreTents.mono_l k
  refine ⟨?_,?_,?_⟩
  ·intro y0 y1 y2
   unfold spec_AreTents.l0
   repeat' first
   | (with_reducible exact ih0 _ _ _)
   | (with_reducible exact ih1 _ _ _ _)
   | (with_reducible exact ih2 _ _ _ _)
   | (with_reducible exact spec_l14Has.mono _ _ _)
   | (with_reducible exact LeO.refl _)
   | (with_reducible exact LeO.none _)
   | (with_reducible refine LeO.ite ?_ ?_)
   | (with_reducible refine LeO.bind ?_ (fun _ => ?_))
   | exact ih0 _ _ _
   | exact ih1 _ _ _ _
   | exact ih2 _ _ _ _
   | exact spec_l14Has.mono _ _ _
   | exact LeO.none _
   | refine LeO.ite ?_ ?_
   | refine LeO.bind ?_ (fun _ => ?_)
  ·intro y0 y1 y2 y3
   unfold spec_AreTents.j1
   repeat' first
   | (with_reducible exact ih0 _ _ _)
   | (with_reducible exact ih1 _ _ _ _)
   | (with_reducible exact ih2 _ _ _ _)
   | (with_reducible exact spec_l14Has.mono _ _ _)
   | (with_reducible exact LeO.refl _)
   | (with_reducible exact LeO.none _)
   | (with_reducible refine LeO.ite ?_ ?_)
   | (with_reducible refine LeO.bind ?_ (fun _ => ?_))
   | exact ih0 _ _ _
   | exact ih1 _ _ _ _
   | exact ih2 _ _ _ _
   | exact spec_l14Has.mono _ _ _
   | exact LeO.none _
   | refine LeO.ite ?_ ?_
   | refine LeO.bind ?_ (fun _ => ?_)
  ·intro y0 y1 y2 y3
   unfold spec_AreTents.l1
   repeat' first
   | (with_reducible exact ih0 _ _ _)
   | (with_reducible exact ih1 _ _ _ _)
   | (with_reducible exact ih2 _ _ _ _)
   | (with_reducible exact spec_l14Has.mono _ _ _)
   | (with_reducible exact LeO.refl _)
   | (with_reducible exact LeO.none _)
   | (with_reducible refine LeO.ite ?_ ?_)
   | (with_reducible refine LeO.bind ?_ (fun _ => ?_))
   | exact ih0 _ _ _
   | exact ih1 _ _ _ _
   | exact ih2 _ _ _ _
   | exact spec_l14Has.mono _ _ _
   | exact LeO.none _
   | refine LeO.ite ?_ ?_
   | refine LeO.bind ?_ (fun _ => ?_)
theorem spec_AreTents.mono : ∀ a0 k, LeO (spec_AreTents.f k a0) (spec_AreTents.f (k + 1) a0) := by
 intro a0 k
 obtain ⟨ih0,ih1,ih2⟩:=spec_AreTents.mono_l k
 unfold spec_AreTents.f
 repeat' first
   | (with_reducible exact ih0 _ _ _)
   | (with_reducible exact ih1 _ _ _ _)
   | (with_reducible exact ih2 _ _ _ _)
   | (with_reducible exact spec_l14Has.mono _ _ _)
   | (with_reducible exact LeO.refl _)
   | (with_reducible exact LeO.none _)
   | (with_reducible refine LeO.ite ?_ ?_)
   | (with_reducible refine LeO.bind ?_ (fun _ => ?_))
   | exact ih0 _ _ _
   | exact ih1 _ _ _ _
   | exact ih2 _ _ _ _
   | exact spec_l14Has.mono _ _ _
   | exact LeO.none _
   | refine LeO.ite ?_ ?_
   | refine LeO.bind ?_ (fun _ => ?_)
def spec_AreTents.T5 : Bool × List (List Nat × List Nat) := (true, [([], []), ([], []), ([0, 1], [0, 1]), ([2], [2]), ([3], [3]), ([4], [4]), ([5], [5]), ([6, 5], [6]), ([7], [7]), ([7], [7]), ([8, 9, 7], [7, 8, 9]), ([10, 7], [7, 10]), ([11, 7], [7, 11]), ([12, 7, 7], [7, 12]), ([13, 7], [7, 13]), ([7, 14], [7, 14]), ([15, 13], [15]), ([16], [16]), ([16], [16]), ([17, 18, 16], [16, 17, 18]), ([19, 16], [16, 19]), ([20, 16], [16, 20]), ([21, 16], [16, 21]), ([16], [16]), ([16], [16]), ([23, 24, 16], [16, 23, 24]), ([25, 16], [16, 25]), ([26, 16], [16, 26]), ([22, 27, 16], [16, 22, 27]), ([16, 28], [16, 28]), ([29, 16], [29]), ([30], [30]), ([31, 30], [30, 31]), ([32, 30, 30], [30, 32]), ([33], [33]), ([33], [33]), ([35, 33], [33, 35]), ([34, 36, 33], [33, 34, 36]), ([37, 33], [33, 37]), ([38, 33], [33, 38]), ([33], [33]), ([33], [33]), ([40, 41, 33], [33, 40, 41]), ([42, 33], [33, 42]), ([43, 33], [33, 43]), ([39, 44, 33], [33, 39, 44]), ([33, 45, 30], [30, 33, 45]), ([30, 46], [30, 46])])
def spec_AreTents.B5 : List Nat := [0, 0, 3, 7, 15, 31, 63, 127, 255, 255, 1023, 2047, 4095, 8191, 16383, 32767, 65535, 131071, 131071, 524287, 1048575, 2097151, 4194303, 131071, 131071, 25296895, 58851327, 125960191, 268435455, 536870911, 1073741823, 2147483647, 4294967295, 8589934591, 17179869183, 17179869183, 51539607551, 137438953471, 274877906943, 549755813887, 17179869183, 17179869183, 3315714752511, 7713761263615, 16509854285823, 35184372088831, 70368744177663, 140737488355327]
theorem spec_AreTents.tab5 : rtab .any (opsOf Try.f28 5) = spec_AreTents.T5 := by kernel_rfl
theorem spec_AreTents.bits5 : waitsOk spec_AreTents.T5.2 spec_AreTents.B5 = true := by kernel_rfl
set_option maxHeartbeats 8000000 in
set_option maxRecDepth 100000 in
theorem spec_AreTents.calls (k : Nat) (A0 : Option Addr) (c0 : Nat) (l0 : List (S45)) (r : Bool) (w : World) (hr0 : Kd.C k45 w A0 l0.length l0) (hc0 : l0.length ≤ c0) (h : spec_AreTents.f k l0 = some r) :
  Calls Try.prog 28 #[.slice A0 l0.length c0] w fun e w' => e = .returned (.bool r) ∧ Below w.heap.size w w':=by
 have HR0:=am hr0;have HC0:=am hc0;clear hr0 hc0;have HB:=am qq149;have H : (spec_AreTents.l0 k l0 (([] : List Int)) 0) = some r:=h;clear h;obtain ⟨y124,hy124⟩ : ∃ y_ : List Int,y_ = (([] : List Int)):=⟨_,rfl⟩
 replace H : (spec_AreTents.l0 k l0 y124 0) = some r:=by first | (rw [hy124];with_reducible exact H) | (have H2_:=(Option.bind_some _ _).symm.trans H;rw [hy124];with_reducible exact H2_) | (have H2_:=(Option.bind_some _ _).symm.trans H;with_reducible exact H2_) | with_reducible exact H | (rw [hy124];exact H) | exact H
 have Ny124:=am hy124;clear hy124;have H':=am H;clear H
 go_enter Try.func28,Try.ntmps28
 go_wp2_with (first | ((with_reducible refine gate_dst (N:=6) rfl ?_);(try (refine gate_guard (by rfl) ?_;dsimp only));refine Kd.R_lit (Kd.int .i64) _ 3 ?hg (N:=6) ?hd (xs:=([] : List Int)) (inner:=[]) (ok:=fun _ => True) (okp:=fun _ => True) ?hr ?hp (fun _ hk => hk) trivial (Below.refl _ _) (Nat.le_refl _) (by simp) ?_;(case hd => rfl);(case hg => rfl);(case hr => exact qq110);(case hp => exact qq117);intro v125 w2 ho3 hb hg_ hnew_;clear hg_ hnew_;(first | rw [← Ny124.out] at ho3 | (simp only [Int.reduceToNat] at ho3;rw [← Ny124.out] at ho3));have HO126:=am (Kd.R_lower ho3 (below_size qq80));replace HB:=am qq153;clear hb ho3))
 go_loopg [3,4] k (fun kq v3 v4 w' => ∃ (x3_1 : List Int) (x4_1 : Int),v4 = .int .i64 x4_1 ∧ Aside0 (spec_AreTents.l0 kq l0 x3_1 x4_1 = some r) ∧ Aside0 (kq ≤ k) ∧ Aside0 (Kd.R (Kd.int .i64) 3 w' w.heap.size (fun _ => True) v3 x3_1) ∧ Aside0 (Below w.heap.size w w'))
 case atStart => exact ⟨(y124),(0),qq105,H',⟨Nat.le_refl _⟩,⟨by (with_reducible repeat (first | apply kA | apply kN | apply kD));exact HO126.out⟩,⟨qq80⟩⟩
 case round =>
  clear H'
  try clear c2
  try clear p2
  obtain ⟨x3_1,x4_1,rfl,HA,HK1,HO_3,HB⟩:=hrel
  cases gk with
  | zero => exact absurd HA.out (by simp [spec_AreTents.l0])
  | succ k1 =>
   have H:=HA.out;clear HA;simp only [spec_AreTents.l0] at H
   by_cases c4 : x4_1 < (l0.length : Int)
   ·rw [if_pos c4] at H;have c4b0 : decide (x4_1 < (l0.length : Int)) = true:=decide_eq_true c4;clear c4;have HC5:=am H;clear H
    go_upto_region 5 with (fail)
    go_cut [60] (fun v60 wc => ∃ (kq : Nat) (x60_4 : Bool),v60 = .bool x60_4 ∧ Aside0 (spec_AreTents.j1 kq l0 x3_1 x4_1 x60_4 = some r) ∧ Aside0 (kq ≤ k1) ∧ Aside0 (Kd.R (Kd.int .i64) 3 wc w.heap.size (fun _ => True) u3 x3_1) ∧ Aside0 (Below w.heap.size w wc))
    case first =>
     have H:=HC5.out;clear HC5
     by_cases c6 : 0 ≤ x4_1
     ·rw [if_pos c6] at H;have c6b0 : decide (0 ≤ x4_1) = true:=decide_eq_true c6;clear c6;(first | rw [c6b0] | (simp only [i64_w,i32_w];rw [c6b0]) | skip);replace H:=bS.mp H;obtain ⟨t128,A70,H⟩:=H;replace H : (if t128 = true then ((spec_l1In.f ((rd_T45 l0 x4_1).f1) 1 6).bind fun t130 => (if t130 = true then (if (((rd_T45 l0 x4_1).f2).length : Int) > ((rd_T45 l0 x4_1).f1) then (spec_AreTents.j1 k1 l0 x3_1 x4_1 true) else (if x4_1 > 0 then (if 0 ≤ (wrap64 (x4_1 - 1)) then (if (wrap64 (x4_1 - 1)) < (l0.length : Int) then (spec_AreTents.j1 k1 l0 x3_1 x4_1 (decide (((rd_T45 l0 (wrap64 (x4_1 - 1))).f0) ≥ ((rd_T45 l0 x4_1).f0)))) else (none)) else (none)) else (spec_AreTents.j1 k1 l0 x3_1 x4_1 false))) else (spec_AreTents.j1 k1 l0 x3_1 x4_1 true))) else (spec_AreTents.j1 k1 l0 x3_1 x4_1 true)) = some r:=H;have A7:=am A70;clear A70
      by_cases c8 : t128 = true
      ·subst c8;have H1 : ((spec_l1In.f ((rd_T45 l0 x4_1).f1) 1 6).bind fun t130 => (if t130 = true then (if (((rd_T45 l0 x4_1).f2).length : Int) > ((rd_T45 l0 x4_1).f1) then (spec_AreTents.j1 k1 l0 x3_1 x4_1 true) else (if x4_1 > 0 then (if 0 ≤ (wrap64 (x4_1 - 1)) then (if (wrap64 (x4_1 - 1)) < (l0.length : Int) then (spec_AreTents.j1 k1 l0 x3_1 x4_1 (decide (((rd_T45 l0 (wrap64 (x4_1 - 1))).f0) ≥ ((rd_T45 l0 x4_1).f0)))) else (none)) else (none)) else (spec_AreTents.j1 k1 l0 x3_1 x4_1 false))) else (spec_AreTents.j1 k1 l0 x3_1 x4_1 true))) = some r:=by rw [if_pos rfl] at H;exact H
       clear H;have H:=H1;clear H1;replace H:=bS.mp H;obtain ⟨t130,A90,H⟩:=H;replace H : (if t130 = true then (if (((rd_T45 l0 x4_1).f2).length : Int) > ((rd_T45 l0 x4_1).f1) then (spec_AreTents.j1 k1 l0 x3_1 x4_1 true) else (if x4_1 > 0 then (if 0 ≤ (wrap64 (x4_1 - 1)) then (if (wrap64 (x4_1 - 1)) < (l0.length : Int) then (spec_AreTents.j1 k1 l0 x3_1 x4_1 (decide (((rd_T45 l0 (wrap64 (x4_1 - 1))).f0) ≥ ((rd_T45 l0 x4_1).f0)))) else (none)) else (none)) else (spec_AreTents.j1 k1 l0 x3_1 x4_1 false))) else (spec_AreTents.j1 k1 l0 x3_1 x4_1 true)) = some r:=H;have A9:=am A90;clear A90
       by_cases c10 : t130 = true
       ·subst c10;have H1 : (if (((rd_T45 l0 x4_1).f2).length : Int) > ((rd_T45 l0 x4_1).f1) then (spec_AreTents.j1 k1 l0 x3_1 x4_1 true) else (if x4_1 > 0 then (if 0 ≤ (wrap64 (x4_1 - 1)) then (if (wrap64 (x4_1 - 1)) < (l0.length : Int) then (spec_AreTents.j1 k1 l0 x3_1 x4_1 (decide (((rd_T45 l0 (wrap64 (x4_1 - 1))).f0) ≥ ((rd_T45 l0 x4_1).f0)))) else (none)) else (none)) else (spec_AreTents.j1 k1 l0 x3_1 x4_1 false))) = some r:=by rw [if_pos rfl] at H;exact H
        clear H;have H:=H1;clear H1
        by_cases c11 : (((rd_T45 l0 x4_1).f2).length : Int) > ((rd_T45 l0 x4_1).f1)
        ·rw [if_pos c11] at H;have c11b0 : decide (((rd_T45 l0 x4_1).f1) < (((rd_T45 l0 x4_1).f2).length : Int)) = true:=decide_eq_true c11;clear c11;have H':=am H;clear H
         try go_wp2
         replace HO_3:=am qq155;replace HB:=am qq154;have p127 : 0 ≤ (x4_1 : Int):=odt qq103;have q127 : x4_1 < (l0.length : Int):=odt qq103;obtain ⟨ad127,A127_2,c127_2,e127,hx127_0,hx127_1,hx127_2,hl127_2,hi127_2⟩:=at_T45 HR0.out x4_1 p127 q127;have hw127_2:=hx127_2;have hw127_1:=hx127_1;have hw127_0:=hx127_0
         cases e127
         replace hx127_0:=(ct HB.out hx127_0 :)
         replace hx127_1:=(ct HB.out hx127_1 :)
         replace hx127_2:=(ct HB.out hx127_2 :)
         have HR127_2:=am hi127_2;have HC127_2:=am hl127_2;clear hi127_2 hl127_2;replace p127:=eq_true p127;replace q127:=eq_true q127;have p129 : 0 ≤ (x4_1 : Int):=odt qq103;have q129 : x4_1 < (l0.length : Int):=odt qq103;obtain ⟨ad129,A129_2,c129_2,e129,hx129_0,hx129_1,hx129_2,hl129_2,hi129_2⟩:=at_T45 HR0.out x4_1 p129 q129;have hw129_2:=hx129_2;have hw129_1:=hx129_1;have hw129_0:=hx129_0;obtain rfl : ad127 = ad129:=(by injection e129)
         replace hx129_0:=(ct HB.out hx129_0 :)
         replace hx129_1:=(ct HB.out hx129_1 :)
         replace hx129_2:=(ct HB.out hx129_2 :)
         have HR129_2:=am hi129_2;have HC129_2:=am hl129_2;clear hi129_2 hl129_2;replace p129:=eq_true p129;replace q129:=eq_true q129;have ea_:=Option.some.inj (hx127_2.symm.trans hx129_2)
         injection ea_ with ea_ en_ ec_
         subst ea_;subst ec_;clear en_;have p131 : 0 ≤ (x4_1 : Int):=odt qq103;have q131 : x4_1 < (l0.length : Int):=odt qq103;obtain ⟨ad131,A131_2,c131_2,e131,hx131_0,hx131_1,hx131_2,hl131_2,hi131_2⟩:=at_T45 HR0.out x4_1 p131 q131;have hw131_2:=hx131_2;have hw131_1:=hx131_1;have hw131_0:=hx131_0;obtain rfl : ad127 = ad131:=(by injection e131)
         replace hx131_0:=(ct HB.out hx131_0 :)
         replace hx131_1:=(ct HB.out hx131_1 :)
         replace hx131_2:=(ct HB.out hx131_2 :)
         have HR131_2:=am hi131_2;have HC131_2:=am hl131_2;clear hi131_2 hl131_2;replace p131:=eq_true p131;replace q131:=eq_true q131;have ea_:=Option.some.inj (hx127_2.symm.trans hx131_2)
         injection ea_ with ea_ en_ ec_
         subst ea_;subst ec_;clear en_;have p132 : 0 ≤ (x4_1 : Int):=odt qq103;have q132 : x4_1 < (l0.length : Int):=odt qq103;obtain ⟨ad132,A132_2,c132_2,e132,hx132_0,hx132_1,hx132_2,hl132_2,hi132_2⟩:=at_T45 HR0.out x4_1 p132 q132;have hw132_2:=hx132_2;have hw132_1:=hx132_1;have hw132_0:=hx132_0;obtain rfl : ad127 = ad132:=(by injection e132)
         replace hx132_0:=(ct HB.out hx132_0 :)
         replace hx132_1:=(ct HB.out hx132_1 :)
         replace hx132_2:=(ct HB.out hx132_2 :)
         have HR132_2:=am hi132_2;have HC132_2:=am hl132_2;clear hi132_2 hl132_2;replace p132:=eq_true p132;replace q132:=eq_true q132;have ea_:=Option.some.inj (hx127_2.symm.trans hx132_2)
         injection ea_ with ea_ en_ ec_
         subst ea_;subst ec_;clear en_;refine start_ (n:=48) (S:=fun w' => w'.cell? (ad127.add ((x4_1).toNat * 3)) = some (.int .i64 ((rd_T45 l0 x4_1).f0)) ∧ w'.cell? ⟨(ad127.add ((x4_1).toNat * 3)).block,(ad127.add ((x4_1).toNat * 3)).off + 1,none⟩ = some (.int .i64 ((rd_T45 l0 x4_1).f1)) ∧ w'.cell? ⟨(ad127.add ((x4_1).toNat * 3)).block,(ad127.add ((x4_1).toNat * 3)).off + 2,none⟩ = some (.slice A127_2 ((rd_T45 l0 x4_1).f2).length c127_2) ∧ w'.cell? (ad127.add ((x4_1).toNat * 3)) = some (.int .i64 ((rd_T45 l0 x4_1).f0)) ∧ w'.cell? ⟨(ad127.add ((x4_1).toNat * 3)).block,(ad127.add ((x4_1).toNat * 3)).off + 1,none⟩ = some (.int .i64 ((rd_T45 l0 x4_1).f1)) ∧ w'.cell? ⟨(ad127.add ((x4_1).toNat * 3)).block,(ad127.add ((x4_1).toNat * 3)).off + 2,none⟩ = some (.slice A127_2 ((rd_T45 l0 x4_1).f2).length c127_2) ∧ w'.cell? (ad127.add ((x4_1).toNat * 3)) = some (.int .i64 ((rd_T45 l0 x4_1).f0)) ∧ w'.cell? ⟨(ad127.add ((x4_1).toNat * 3)).block,(ad127.add ((x4_1).toNat * 3)).off + 1,none⟩ = some (.int .i64 ((rd_T45 l0 x4_1).f1)) ∧ w'.cell? ⟨(ad127.add ((x4_1).toNat * 3)).block,(ad127.add ((x4_1).toNat * 3)).off + 2,none⟩ = some (.slice A127_2 ((rd_T45 l0 x4_1).f2).length c127_2) ∧ w'.cell? (ad127.add ((x4_1).toNat * 3)) = some (.int .i64 ((rd_T45 l0 x4_1).f0)) ∧ w'.cell? ⟨(ad127.add ((x4_1).toNat * 3)).block,(ad127.add ((x4_1).toNat * 3)).off + 1,none⟩ = some (.int .i64 ((rd_T45 l0 x4_1).f1)) ∧ w'.cell? ⟨(ad127.add ((x4_1).toNat * 3)).block,(ad127.add ((x4_1).toNat * 3)).off + 2,none⟩ = some (.slice A127_2 ((rd_T45 l0 x4_1).f2).length c127_2)) (ds:=[]) m0_2 (by kernel_rfl) rfl rfl ⟨(ct HB.out hw127_0 :),(ct HB.out hw127_1 :),(ct HB.out hw127_2 :),(ct HB.out hw129_0 :),(ct HB.out hw129_1 :),(ct HB.out hw129_2 :),(ct HB.out hw131_0 :),(ct HB.out hw131_1 :),(ct HB.out hw131_2 :),(ct HB.out hw132_0 :),(ct HB.out hw132_1 :),(ct HB.out hw132_2 :)⟩ (fun hHeld => ?_);refine with_tabW spec_AreTents.tab5 spec_AreTents.bits5 (fun HT_ HW_ => ?_)
         generalize wr.drew = w12 at HO_3 HB HR127_2 HR129_2 HR131_2 HR132_2 hx127_0 hx127_1 hx127_2 hx129_0 hx129_1 hx129_2 hx131_0 hx131_1 hx131_2 hx132_0 hx132_1 hx132_2 hHeld ⊢
         refine pV (i:=0) (N:=some 13) m1_2 rfl rfl qT ?_
         refine pV (i:=1) (N:=some 14) m2_2 rfl rfl qT ?_
         refine pV (i:=2) (N:=some 15) m3_2 rfl rfl qT ?_
         refine pV (i:=3) (N:=some 16) m4_2 rfl rfl qT ?_
         refine take_ (i:=4) (N:=some 17) (v:=?_) (a':=?_) m5_2 rfl rfl (take_ofW HT_.out HW_.out (by kernel_rfl)) (fun _ _ _ h => h) (Or.inl ⟨by rfl,?_⟩) hHeld ?_ ?_;rotate_left
         ·rintro w' ⟨s0,s1,s2,s3,s4,s5,s6,s7,s8,s9,s10,s11⟩
          go_simp;with_reducible rfl
         rotate_left
         ·simp only [Act.put,sA,s0,s1,i64_w,i32_w];rfl
         refine one_ (i:=5) (N:=some 18) m6_2 rfl rfl (one_of HT_.out (by kernel_rfl)) (by decide) (fun K hK => ?_);refine goes_ Try.func47 (by kernel_rfl) rfl #[.int .i64 ((rd_T45 l0 x4_1).f0),.int .i64 1,.int .i64 99] (by rfl) rfl rfl qq48 ?_;with_reducible refine (spec_l1In.calls ((rd_T45 l0 x4_1).f0) 1 99 true _ A7.out).mono ?_
         rintro e w' ⟨rfl,⟨nd,rfl⟩⟩
         refine ⟨_,rfl,?_⟩;refine hK.out _ _ ⟨(ct HB.out hw127_0 :),(ct HB.out hw127_1 :),(ct HB.out hw127_2 :),(ct HB.out hw129_0 :),(ct HB.out hw129_1 :),(ct HB.out hw129_2 :),(ct HB.out hw131_0 :),(ct HB.out hw131_1 :),(ct HB.out hw131_2 :),(ct HB.out hw132_0 :),(ct HB.out hw132_1 :),(ct HB.out hw132_2 :)⟩ (fun hHeld => ?_);clear hK K;refine norm_ (a':=?_) ?_ ?_;rotate_left
         ·show Act.put _ (some 18) _ = _
          simp only [Act.put,sA,s0,s1,i64_w,i32_w];rfl
         refine pV (i:=6) (N:=some 19) m7_2 rfl rfl qT ?_
         refine pV (i:=7) (N:=some 20) m8_2 rfl rfl qT ?_
         refine pV (i:=8) (N:=some 21) m9_2 rfl rfl qT ?_
         refine pV (i:=9) (N:=some 22) m10_2 rfl rfl qT ?_
         refine pV (i:=10) (N:=some 23) m11_2 rfl rfl qT ?_
         refine pV (i:=11) (N:=some 24) m12_2 rfl rfl qT ?_
         refine take_ (i:=12) (N:=some 25) (v:=?_) (a':=?_) m13_2 rfl rfl (take_ofW HT_.out HW_.out (by kernel_rfl)) (fun _ _ _ h => h) (Or.inl ⟨by rfl,?_⟩) hHeld ?_ ?_;rotate_left
         ·rintro w' ⟨s0,s1,s2,s3,s4,s5,s6,s7,s8,s9,s10,s11⟩
          go_simp;with_reducible rfl
         rotate_left
         ·simp only [Act.put,sA,s0,s1,i64_w,i32_w];rfl
         refine one_ (i:=13) (N:=some 26) m14_2 rfl rfl (one_of HT_.out (by kernel_rfl)) (by decide) (fun K hK => ?_);refine goes_ Try.func47 (by kernel_rfl) rfl #[.int .i64 ((rd_T45 l0 x4_1).f1),.int .i64 1,.int .i64 6] (by rfl) rfl rfl qq48 ?_;with_reducible refine (spec_l1In.calls ((rd_T45 l0 x4_1).f1) 1 6 true _ A9.out).mono ?_
         rintro e w' ⟨rfl,⟨nd,rfl⟩⟩
         refine ⟨_,rfl,?_⟩;refine hK.out _ _ ⟨(ct HB.out hw127_0 :),(ct HB.out hw127_1 :),(ct HB.out hw127_2 :),(ct HB.out hw129_0 :),(ct HB.out hw129_1 :),(ct HB.out hw129_2 :),(ct HB.out hw131_0 :),(ct HB.out hw131_1 :),(ct HB.out hw131_2 :),(ct HB.out hw132_0 :),(ct HB.out hw132_1 :),(ct HB.out hw132_2 :)⟩ (fun hHeld => ?_);clear hK K;refine norm_ (a':=?_) ?_ ?_;rotate_left
         ·show Act.put _ (some 26) _ = _
          simp only [Act.put,sA,s0,s1,i64_w,i32_w];rfl
         refine pV (i:=14) (N:=some 27) m15_2 rfl rfl qT ?_
         refine pV (i:=15) (N:=some 28) m16_2 rfl rfl qT ?_
         refine pV (i:=16) (N:=some 29) m17_2 rfl rfl qT ?_
         refine pV (i:=17) (N:=some 30) m18_2 rfl rfl qT ?_
         refine pV (i:=18) (N:=some 31) m19_2 rfl rfl qT ?_
         refine pV (i:=19) (N:=some 32) m20_2 rfl rfl qT ?_
         refine pV (i:=20) (N:=some 33) m21_2 rfl rfl qT ?_
         refine pV (i:=23) (N:=some 36) m22_2 rfl rfl qT ?_
         refine pV (i:=24) (N:=some 37) m23_2 rfl rfl qT ?_
         refine pV (i:=25) (N:=some 38) m24_2 rfl rfl qT ?_
         refine pV (i:=26) (N:=some 39) m25_2 rfl rfl qT ?_
         refine take_ (i:=21) (N:=some 34) (v:=?_) (a':=?_) m26_2 rfl rfl (take_ofW HT_.out HW_.out (by kernel_rfl)) (fun _ _ _ h => h) (Or.inl ⟨by rfl,?_⟩) hHeld ?_ ?_;rotate_left
         ·rintro w' ⟨s0,s1,s2,s3,s4,s5,s6,s7,s8,s9,s10,s11⟩
          go_simp;with_reducible rfl
         rotate_left
         ·simp only [Act.put,sA,s0,s1,i64_w,i32_w];rfl
         refine pV (i:=22) (N:=some 35) m27_2 rfl rfl qT ?_
         refine take_ (i:=27) (N:=some 40) (v:=?_) (a':=?_) m28_2 rfl rfl (take_ofW HT_.out HW_.out (by kernel_rfl)) (fun _ _ _ h => h) (Or.inl ⟨by rfl,?_⟩) hHeld ?_ ?_;rotate_left
         ·rintro w' ⟨s0,s1,s2,s3,s4,s5,s6,s7,s8,s9,s10,s11⟩
          go_simp;with_reducible rfl
         rotate_left
         ·simp only [Act.put,sA,s0,s1,i64_w,i32_w];rfl
         refine pV (i:=28) (N:=some 41) m29_2 rfl rfl qT ?_
         refine pV (i:=29) (N:=some 42) m30_2 rfl rfl qT ?_
         refine pV (i:=30) (N:=some 43) m31_2 rfl rfl qT ?_
         refine pW (i:=31) (N:=some 44) m32_2 rfl rfl qT ?_
         refine pW (i:=32) (N:=some 45) m33_2 rfl rfl qT ?_
         refine pW (i:=33) (N:=some 46) m34_2 rfl rfl qT ?_
         refine pW (i:=34) (N:=some 47) m35_2 rfl rfl qT ?_
         refine pW (i:=35) (N:=some 48) m36_2 rfl rfl qT ?_
         refine pW (i:=36) (N:=some 49) m37_2 rfl rfl qT ?_
         refine pW (i:=37) (N:=some 50) m38_2 rfl rfl qT ?_
         refine pW (i:=38) (N:=some 51) m39_2 rfl rfl qT ?_
         refine pW (i:=39) (N:=some 52) m40_2 rfl rfl qT ?_
         refine pW (i:=40) (N:=some 53) m41_2 rfl rfl qT ?_
         refine pW (i:=41) (N:=some 54) m42_2 rfl rfl qT ?_
         refine pW (i:=42) (N:=some 55) m43_2 rfl rfl qT ?_
         refine pW (i:=43) (N:=some 56) m44_2 rfl rfl qT ?_
         refine pW (i:=44) (N:=some 57) m45_2 rfl rfl qT ?_
         refine pW (i:=45) (N:=some 58) m46_2 rfl rfl qT ?_
         refine pW (i:=46) (N:=some 59) m47_2 rfl rfl qT ?_
         refine pV (i:=47) (N:=some 60) m48_2 rfl rfl qT ?_
         refine done_ (done_of HT_.out (by kernel_rfl)) ?_
         try go_wp2
         go_meet
         case rel => exact ⟨_,(true),qq105,H',⟨qq102⟩,⟨qq99⟩,⟨qq80⟩⟩
        ·rw [if_neg c11] at H;have c11b0 : decide (((rd_T45 l0 x4_1).f1) < (((rd_T45 l0 x4_1).f2).length : Int)) = false:=decide_eq_false c11;clear c11
         by_cases c13 : x4_1 > 0
         ·rw [if_pos c13] at H;have c13b0 : decide (0 < x4_1) = true:=decide_eq_true c13;clear c13;obtain ⟨ji14,hji14⟩ : ∃ j_ : Int,(wrap64 (x4_1 - 1)) = j_:=⟨_,rfl⟩
          replace H : (if 0 ≤ (ji14) then (if (ji14) < (l0.length : Int) then (spec_AreTents.j1 k1 l0 x3_1 x4_1 (decide (((rd_T45 l0 (ji14)).f0) ≥ ((rd_T45 l0 x4_1).f0)))) else (none)) else (none)) = some r:=by first | (rw [hji14] at H;exact H) | (simp only [hji14] at H ⊢;exact H)
          (try rw [hji14] at A7);(try rw [hji14] at A9);have hji14w : (IntKind.i64.wrap (x4_1 - 1)) = ji14:=(i64_w _).trans hji14
          by_cases c15 : 0 ≤ (ji14)
          ·rw [if_pos c15] at H;have c15b0 : decide (0 ≤ (ji14)) = true:=decide_eq_true c15;clear c15
           by_cases c16 : (ji14) < (l0.length : Int)
           ·rw [if_pos c16] at H;have c16b0 : decide ((ji14) < (l0.length : Int)) = true:=decide_eq_true c16;clear c16;have H':=am H;clear H
            try go_wp2
            replace HO_3:=am qq155;replace HB:=am qq154;have p127 : 0 ≤ (x4_1 : Int):=odt qq103;have q127 : x4_1 < (l0.length : Int):=odt qq103;obtain ⟨ad127,A127_2,c127_2,e127,hx127_0,hx127_1,hx127_2,hl127_2,hi127_2⟩:=at_T45 HR0.out x4_1 p127 q127;have hw127_2:=hx127_2;have hw127_1:=hx127_1;have hw127_0:=hx127_0
            cases e127
            replace hx127_0:=(ct HB.out hx127_0 :)
            replace hx127_1:=(ct HB.out hx127_1 :)
            replace hx127_2:=(ct HB.out hx127_2 :)
            have HR127_2:=am hi127_2;have HC127_2:=am hl127_2;clear hi127_2 hl127_2;replace p127:=eq_true p127;replace q127:=eq_true q127;have p129 : 0 ≤ (x4_1 : Int):=odt qq103;have q129 : x4_1 < (l0.length : Int):=odt qq103;obtain ⟨ad129,A129_2,c129_2,e129,hx129_0,hx129_1,hx129_2,hl129_2,hi129_2⟩:=at_T45 HR0.out x4_1 p129 q129;have hw129_2:=hx129_2;have hw129_1:=hx129_1;have hw129_0:=hx129_0;obtain rfl : ad127 = ad129:=(by injection e129)
            replace hx129_0:=(ct HB.out hx129_0 :)
            replace hx129_1:=(ct HB.out hx129_1 :)
            replace hx129_2:=(ct HB.out hx129_2 :)
            have HR129_2:=am hi129_2;have HC129_2:=am hl129_2;clear hi129_2 hl129_2;replace p129:=eq_true p129;replace q129:=eq_true q129;have ea_:=Option.some.inj (hx127_2.symm.trans hx129_2)
            injection ea_ with ea_ en_ ec_
            subst ea_;subst ec_;clear en_;have p131 : 0 ≤ (x4_1 : Int):=odt qq103;have q131 : x4_1 < (l0.length : Int):=odt qq103;obtain ⟨ad131,A131_2,c131_2,e131,hx131_0,hx131_1,hx131_2,hl131_2,hi131_2⟩:=at_T45 HR0.out x4_1 p131 q131;have hw131_2:=hx131_2;have hw131_1:=hx131_1;have hw131_0:=hx131_0;obtain rfl : ad127 = ad131:=(by injection e131)
            replace hx131_0:=(ct HB.out hx131_0 :)
            replace hx131_1:=(ct HB.out hx131_1 :)
            replace hx131_2:=(ct HB.out hx131_2 :)
            have HR131_2:=am hi131_2;have HC131_2:=am hl131_2;clear hi131_2 hl131_2;replace p131:=eq_true p131;replace q131:=eq_true q131;have ea_:=Option.some.inj (hx127_2.symm.trans hx131_2)
            injection ea_ with ea_ en_ ec_
            subst ea_;subst ec_;clear en_;have p132 : 0 ≤ (x4_1 : Int):=odt qq103;have q132 : x4_1 < (l0.length : Int):=odt qq103;obtain ⟨ad132,A132_2,c132_2,e132,hx132_0,hx132_1,hx132_2,hl132_2,hi132_2⟩:=at_T45 HR0.out x4_1 p132 q132;have hw132_2:=hx132_2;have hw132_1:=hx132_1;have hw132_0:=hx132_0;obtain rfl : ad127 = ad132:=(by injection e132)
            replace hx132_0:=(ct HB.out hx132_0 :)
            replace hx132_1:=(ct HB.out hx132_1 :)
            replace hx132_2:=(ct HB.out hx132_2 :)
            have HR132_2:=am hi132_2;have HC132_2:=am hl132_2;clear hi132_2 hl132_2;replace p132:=eq_true p132;replace q132:=eq_true q132;have ea_:=Option.some.inj (hx127_2.symm.trans hx132_2)
            injection ea_ with ea_ en_ ec_
            subst ea_;subst ec_;clear en_;have p133 : 0 ≤ ((ji14) : Int):=odt qq103;have q133 : (ji14) < (l0.length : Int):=odt qq103;obtain ⟨ad133,A133_2,c133_2,e133,hx133_0,hx133_1,hx133_2,hl133_2,hi133_2⟩:=at_T45 HR0.out (ji14) p133 q133;have hw133_2:=hx133_2;have hw133_1:=hx133_1;have hw133_0:=hx133_0;obtain rfl : ad127 = ad133:=(by injection e133)
            replace hx133_0:=(ct HB.out hx133_0 :)
            replace hx133_1:=(ct HB.out hx133_1 :)
            replace hx133_2:=(ct HB.out hx133_2 :)
            have HR133_2:=am hi133_2;have HC133_2:=am hl133_2;clear hi133_2 hl133_2;replace p133:=eq_true p133;replace q133:=eq_true q133;have p134 : 0 ≤ (x4_1 : Int):=odt qq103;have q134 : x4_1 < (l0.length : Int):=odt qq103;obtain ⟨ad134,A134_2,c134_2,e134,hx134_0,hx134_1,hx134_2,hl134_2,hi134_2⟩:=at_T45 HR0.out x4_1 p134 q134;have hw134_2:=hx134_2;have hw134_1:=hx134_1;have hw134_0:=hx134_0;obtain rfl : ad127 = ad134:=(by injection e134)
            replace hx134_0:=(ct HB.out hx134_0 :)
            replace hx134_1:=(ct HB.out hx134_1 :)
            replace hx134_2:=(ct HB.out hx134_2 :)
            have HR134_2:=am hi134_2;have HC134_2:=am hl134_2;clear hi134_2 hl134_2;replace p134:=eq_true p134;replace q134:=eq_true q134;have ea_:=Option.some.inj (hx127_2.symm.trans hx134_2)
            injection ea_ with ea_ en_ ec_
            subst ea_;subst ec_;clear en_;refine start_ (n:=48) (S:=fun w' => w'.cell? (ad127.add ((x4_1).toNat * 3)) = some (.int .i64 ((rd_T45 l0 x4_1).f0)) ∧ w'.cell? ⟨(ad127.add ((x4_1).toNat * 3)).block,(ad127.add ((x4_1).toNat * 3)).off + 1,none⟩ = some (.int .i64 ((rd_T45 l0 x4_1).f1)) ∧ w'.cell? ⟨(ad127.add ((x4_1).toNat * 3)).block,(ad127.add ((x4_1).toNat * 3)).off + 2,none⟩ = some (.slice A127_2 ((rd_T45 l0 x4_1).f2).length c127_2) ∧ w'.cell? (ad127.add ((x4_1).toNat * 3)) = some (.int .i64 ((rd_T45 l0 x4_1).f0)) ∧ w'.cell? ⟨(ad127.add ((x4_1).toNat * 3)).block,(ad127.add ((x4_1).toNat * 3)).off + 1,none⟩ = some (.int .i64 ((rd_T45 l0 x4_1).f1)) ∧ w'.cell? ⟨(ad127.add ((x4_1).toNat * 3)).block,(ad127.add ((x4_1).toNat * 3)).off + 2,none⟩ = some (.slice A127_2 ((rd_T45 l0 x4_1).f2).length c127_2) ∧ w'.cell? (ad127.add ((x4_1).toNat * 3)) = some (.int .i64 ((rd_T45 l0 x4_1).f0)) ∧ w'.cell? ⟨(ad127.add ((x4_1).toNat * 3)).block,(ad127.add ((x4_1).toNat * 3)).off + 1,none⟩ = some (.int .i64 ((rd_T45 l0 x4_1).f1)) ∧ w'.cell? ⟨(ad127.add ((x4_1).toNat * 3)).block,(ad127.add ((x4_1).toNat * 3)).off + 2,none⟩ = some (.slice A127_2 ((rd_T45 l0 x4_1).f2).length c127_2) ∧ w'.cell? (ad127.add ((x4_1).toNat * 3)) = some (.int .i64 ((rd_T45 l0 x4_1).f0)) ∧ w'.cell? ⟨(ad127.add ((x4_1).toNat * 3)).block,(ad127.add ((x4_1).toNat * 3)).off + 1,none⟩ = some (.int .i64 ((rd_T45 l0 x4_1).f1)) ∧ w'.cell? ⟨(ad127.add ((x4_1).toNat * 3)).block,(ad127.add ((x4_1).toNat * 3)).off + 2,none⟩ = some (.slice A127_2 ((rd_T45 l0 x4_1).f2).length c127_2) ∧ w'.cell? (ad127.add (((ji14)).toNat * 3)) = some (.int .i64 ((rd_T45 l0 (ji14)).f0)) ∧ w'.cell? ⟨(ad127.add (((ji14)).toNat * 3)).block,(ad127.add (((ji14)).toNat * 3)).off + 1,none⟩ = some (.int .i64 ((rd_T45 l0 (ji14)).f1)) ∧ w'.cell? ⟨(ad127.add (((ji14)).toNat * 3)).block,(ad127.add (((ji14)).toNat * 3)).off + 2,none⟩ = some (.slice A133_2 ((rd_T45 l0 (ji14)).f2).length c133_2) ∧ w'.cell? (ad127.add ((x4_1).toNat * 3)) = some (.int .i64 ((rd_T45 l0 x4_1).f0)) ∧ w'.cell? ⟨(ad127.add ((x4_1).toNat * 3)).block,(ad127.add ((x4_1).toNat * 3)).off + 1,none⟩ = some (.int .i64 ((rd_T45 l0 x4_1).f1)) ∧ w'.cell? ⟨(ad127.add ((x4_1).toNat * 3)).block,(ad127.add ((x4_1).toNat * 3)).off + 2,none⟩ = some (.slice A127_2 ((rd_T45 l0 x4_1).f2).length c127_2)) (ds:=[]) m0_2 (by kernel_rfl) rfl rfl ⟨(ct HB.out hw127_0 :),(ct HB.out hw127_1 :),(ct HB.out hw127_2 :),(ct HB.out hw129_0 :),(ct HB.out hw129_1 :),(ct HB.out hw129_2 :),(ct HB.out hw131_0 :),(ct HB.out hw131_1 :),(ct HB.out hw131_2 :),(ct HB.out hw132_0 :),(ct HB.out hw132_1 :),(ct HB.out hw132_2 :),(ct HB.out hw133_0 :),(ct HB.out hw133_1 :),(ct HB.out hw133_2 :),(ct HB.out hw134_0 :),(ct HB.out hw134_1 :),(ct HB.out hw134_2 :)⟩ (fun hHeld => ?_);refine with_tabW spec_AreTents.tab5 spec_AreTents.bits5 (fun HT_ HW_ => ?_)
            generalize wr.drew = w17 at HO_3 HB HR127_2 HR129_2 HR131_2 HR132_2 HR133_2 HR134_2 hx127_0 hx127_1 hx127_2 hx129_0 hx129_1 hx129_2 hx131_0 hx131_1 hx131_2 hx132_0 hx132_1 hx132_2 hx133_0 hx133_1 hx133_2 hx134_0 hx134_1 hx134_2 hHeld ⊢
            refine pV (i:=0) (N:=some 13) m1_2 rfl rfl qT ?_
            refine pV (i:=1) (N:=some 14) m2_2 rfl rfl qT ?_
            refine pV (i:=2) (N:=some 15) m3_2 rfl rfl qT ?_
            refine pV (i:=3) (N:=some 16) m4_2 rfl rfl qT ?_
            refine take_ (i:=4) (N:=some 17) (v:=?_) (a':=?_) m5_2 rfl rfl (take_ofW HT_.out HW_.out (by kernel_rfl)) (fun _ _ _ h => h) (Or.inl ⟨by rfl,?_⟩) hHeld ?_ ?_;rotate_left
            ·rintro w' ⟨s0,s1,s2,s3,s4,s5,s6,s7,s8,s9,s10,s11,s12,s13,s14,s15,s16,s17⟩
             go_simp;with_reducible rfl
            rotate_left
            ·simp only [Act.put,sA,s0,s1,i64_w,i32_w];rfl
            refine one_ (i:=5) (N:=some 18) m6_2 rfl rfl (one_of HT_.out (by kernel_rfl)) (by decide) (fun K hK => ?_);refine goes_ Try.func47 (by kernel_rfl) rfl #[.int .i64 ((rd_T45 l0 x4_1).f0),.int .i64 1,.int .i64 99] (by rfl) rfl rfl qq48 ?_;with_reducible refine (spec_l1In.calls ((rd_T45 l0 x4_1).f0) 1 99 true _ A7.out).mono ?_
            rintro e w' ⟨rfl,⟨nd,rfl⟩⟩
            refine ⟨_,rfl,?_⟩;refine hK.out _ _ ⟨(ct HB.out hw127_0 :),(ct HB.out hw127_1 :),(ct HB.out hw127_2 :),(ct HB.out hw129_0 :),(ct HB.out hw129_1 :),(ct HB.out hw129_2 :),(ct HB.out hw131_0 :),(ct HB.out hw131_1 :),(ct HB.out hw131_2 :),(ct HB.out hw132_0 :),(ct HB.out hw132_1 :),(ct HB.out hw132_2 :),(ct HB.out hw133_0 :),(ct HB.out hw133_1 :),(ct HB.out hw133_2 :),(ct HB.out hw134_0 :),(ct HB.out hw134_1 :),(ct HB.out hw134_2 :)⟩ (fun hHeld => ?_);clear hK K;refine norm_ (a':=?_) ?_ ?_;rotate_left
            ·show Act.put _ (some 18) _ = _
             simp only [Act.put,sA,s0,s1,i64_w,i32_w];rfl
            refine pV (i:=6) (N:=some 19) m7_2 rfl rfl qT ?_
            refine pV (i:=7) (N:=some 20) m8_2 rfl rfl qT ?_
            refine pV (i:=8) (N:=some 21) m9_2 rfl rfl qT ?_
            refine pV (i:=9) (N:=some 22) m10_2 rfl rfl qT ?_
            refine pV (i:=10) (N:=some 23) m11_2 rfl rfl qT ?_
            refine pV (i:=11) (N:=some 24) m12_2 rfl rfl qT ?_
            refine take_ (i:=12) (N:=some 25) (v:=?_) (a':=?_) m13_2 rfl rfl (take_ofW HT_.out HW_.out (by kernel_rfl)) (fun _ _ _ h => h) (Or.inl ⟨by rfl,?_⟩) hHeld ?_ ?_;rotate_left
            ·rintro w' ⟨s0,s1,s2,s3,s4,s5,s6,s7,s8,s9,s10,s11,s12,s13,s14,s15,s16,s17⟩
             go_simp;with_reducible rfl
            rotate_left
            ·simp only [Act.put,sA,s0,s1,i64_w,i32_w];rfl
            refine one_ (i:=13) (N:=some 26) m14_2 rfl rfl (one_of HT_.out (by kernel_rfl)) (by decide) (fun K hK => ?_);refine goes_ Try.func47 (by kernel_rfl) rfl #[.int .i64 ((rd_T45 l0 x4_1).f1),.int .i64 1,.int .i64 6] (by rfl) rfl rfl qq48 ?_;with_reducible refine (spec_l1In.calls ((rd_T45 l0 x4_1).f1) 1 6 true _ A9.out).mono ?_
            rintro e w' ⟨rfl,⟨nd,rfl⟩⟩
            refine ⟨_,rfl,?_⟩;refine hK.out _ _ ⟨(ct HB.out hw127_0 :),(ct HB.out hw127_1 :),(ct HB.out hw127_2 :),(ct HB.out hw129_0 :),(ct HB.out hw129_1 :),(ct HB.out hw129_2 :),(ct HB.out hw131_0 :),(ct HB.out hw131_1 :),(ct HB.out hw131_2 :),(ct HB.out hw132_0 :),(ct HB.out hw132_1 :),(ct HB.out hw132_2 :),(ct HB.out hw133_0 :),(ct HB.out hw133_1 :),(ct HB.out hw133_2 :),(ct HB.out hw134_0 :),(ct HB.out hw134_1 :),(ct HB.out hw134_2 :)⟩ (fun hHeld => ?_);clear hK K;refine norm_ (a':=?_) ?_ ?_;rotate_left
            ·show Act.put _ (some 26) _ = _
             simp only [Act.put,sA,s0,s1,i64_w,i32_w];rfl
            refine pV (i:=14) (N:=some 27) m15_2 rfl rfl qT ?_
            refine pV (i:=15) (N:=some 28) m16_2 rfl rfl qT ?_
            refine pV (i:=16) (N:=some 29) m17_2 rfl rfl qT ?_
            refine pV (i:=17) (N:=some 30) m18_2 rfl rfl qT ?_
            refine pV (i:=18) (N:=some 31) m19_2 rfl rfl qT ?_
            refine pV (i:=19) (N:=some 32) m20_2 rfl rfl qT ?_
            refine pV (i:=20) (N:=some 33) m21_2 rfl rfl qT ?_
            refine pV (i:=23) (N:=some 36) m22_2 rfl rfl qT ?_
            refine pV (i:=24) (N:=some 37) m23_2 rfl rfl qT ?_
            refine pV (i:=25) (N:=some 38) m24_2 rfl rfl qT ?_
            refine pV (i:=26) (N:=some 39) m25_2 rfl rfl qT ?_
            refine take_ (i:=21) (N:=some 34) (v:=?_) (a':=?_) m26_2 rfl rfl (take_ofW HT_.out HW_.out (by kernel_rfl)) (fun _ _ _ h => h) (Or.inl ⟨by rfl,?_⟩) hHeld ?_ ?_;rotate_left
            ·rintro w' ⟨s0,s1,s2,s3,s4,s5,s6,s7,s8,s9,s10,s11,s12,s13,s14,s15,s16,s17⟩
             go_simp;with_reducible rfl
            rotate_left
            ·simp only [Act.put,sA,s0,s1,i64_w,i32_w];rfl
            refine pV (i:=22) (N:=some 35) m27_2 rfl rfl qT ?_
            refine take_ (i:=27) (N:=some 40) (v:=?_) (a':=?_) m28_2 rfl rfl (take_ofW HT_.out HW_.out (by kernel_rfl)) (fun _ _ _ h => h) (Or.inl ⟨by rfl,?_⟩) hHeld ?_ ?_;rotate_left
            ·rintro w' ⟨s0,s1,s2,s3,s4,s5,s6,s7,s8,s9,s10,s11,s12,s13,s14,s15,s16,s17⟩
             go_simp;with_reducible rfl
            rotate_left
            ·simp only [Act.put,sA,s0,s1,i64_w,i32_w];rfl
            refine pV (i:=28) (N:=some 41) m29_2 rfl rfl qT ?_
            refine pV (i:=29) (N:=some 42) m30_2 rfl rfl qT ?_
            refine pV (i:=30) (N:=some 43) m31_2 rfl rfl qT ?_
            refine pV (i:=31) (N:=some 44) m32_2 rfl rfl qT ?_
            refine pV (i:=32) (N:=some 45) m33_2 rfl rfl qT ?_
            refine pV (i:=33) (N:=some 46) m34_2 rfl rfl qT ?_
            refine pV (i:=34) (N:=some 47) m35_2 rfl rfl qT ?_
            refine pV (i:=35) (N:=some 48) m36_2 rfl rfl qT ?_
            refine pV (i:=36) (N:=some 49) m37_2 rfl rfl qT ?_
            refine pV (i:=37) (N:=some 50) m38_2 rfl rfl qT ?_
            refine pV (i:=38) (N:=some 51) m39_2 rfl rfl qT ?_
            refine pV (i:=40) (N:=some 53) #[Y,Y,Y,Y,Y,Y,Y,Y,Y,Y,Y,Y,Y,Y,Y,Y,Y,Y,Y,Y,Y,Y,Y,Y,Y,Y,Y,Y,Y,Y,Y,Y,Y,Y,Y,Y,Y,Y,Y,Z,Y,Z,Z,Z,Z,Z,Z,Z] rfl rfl qT ?_
            refine pV (i:=41) (N:=some 54) #[Y,Y,Y,Y,Y,Y,Y,Y,Y,Y,Y,Y,Y,Y,Y,Y,Y,Y,Y,Y,Y,Y,Y,Y,Y,Y,Y,Y,Y,Y,Y,Y,Y,Y,Y,Y,Y,Y,Y,Z,Y,Y,Z,Z,Z,Z,Z,Z] rfl rfl qT ?_
            refine pV (i:=42) (N:=some 55) #[Y,Y,Y,Y,Y,Y,Y,Y,Y,Y,Y,Y,Y,Y,Y,Y,Y,Y,Y,Y,Y,Y,Y,Y,Y,Y,Y,Y,Y,Y,Y,Y,Y,Y,Y,Y,Y,Y,Y,Z,Y,Y,Y,Z,Z,Z,Z,Z] rfl rfl qT ?_
            refine pV (i:=43) (N:=some 56) #[Y,Y,Y,Y,Y,Y,Y,Y,Y,Y,Y,Y,Y,Y,Y,Y,Y,Y,Y,Y,Y,Y,Y,Y,Y,Y,Y,Y,Y,Y,Y,Y,Y,Y,Y,Y,Y,Y,Y,Z,Y,Y,Y,Y,Z,Z,Z,Z] rfl rfl qT ?_
            refine take_ (i:=39) (N:=some 52) (v:=?_) (a':=?_) m44_2 rfl rfl (take_ofW HT_.out HW_.out (by kernel_rfl)) (fun _ _ _ h => h) (Or.inl ⟨by rfl,?_⟩) hHeld ?_ ?_;rotate_left
            ·rintro w' ⟨s0,s1,s2,s3,s4,s5,s6,s7,s8,s9,s10,s11,s12,s13,s14,s15,s16,s17⟩
             go_simp;with_reducible rfl
            rotate_left
            ·simp only [Act.put,sA,s0,s1,i64_w,i32_w];rfl
            refine take_ (i:=44) (N:=some 57) (v:=?_) (a':=?_) m45_2 rfl rfl (take_ofW HT_.out HW_.out (by kernel_rfl)) (fun _ _ _ h => h) (Or.inl ⟨by rfl,?_⟩) hHeld ?_ ?_;rotate_left
            ·rintro w' ⟨s0,s1,s2,s3,s4,s5,s6,s7,s8,s9,s10,s11,s12,s13,s14,s15,s16,s17⟩
             go_simp;with_reducible rfl
            rotate_left
            ·simp only [Act.put,sA,s0,s1,i64_w,i32_w];rfl
            refine pV (i:=45) (N:=some 58) m46_2 rfl rfl qT ?_
            refine pV (i:=46) (N:=some 59) m47_2 rfl rfl qT ?_
            refine pV (i:=47) (N:=some 60) m48_2 rfl rfl qT ?_
            refine done_ (done_of HT_.out (by kernel_rfl)) ?_
            try go_wp2
            go_meet
            case rel => exact ⟨_,(decide (((rd_T45 l0 (ji14)).f0) ≥ ((rd_T45 l0 x4_1).f0))),(by first | rfl | (simp;done) | (simp only [← hji14] <;> (first | rfl | simp)) | (simp [*];done)),H',⟨qq102⟩,⟨qq99⟩,⟨qq80⟩⟩
           ·rw [if_neg c16] at H;exact absurd H (by simp)
          ·rw [if_neg c15] at H;exact absurd H (by simp)
         ·rw [if_neg c13] at H;have c13b0 : decide (0 < x4_1) = false:=decide_eq_false c13;clear c13;have H':=am H;clear H
          try go_wp2
          replace HO_3:=am qq155;replace HB:=am qq154;have p127 : 0 ≤ (x4_1 : Int):=odt qq103;have q127 : x4_1 < (l0.length : Int):=odt qq103;obtain ⟨ad127,A127_2,c127_2,e127,hx127_0,hx127_1,hx127_2,hl127_2,hi127_2⟩:=at_T45 HR0.out x4_1 p127 q127;have hw127_2:=hx127_2;have hw127_1:=hx127_1;have hw127_0:=hx127_0
          cases e127
          replace hx127_0:=(ct HB.out hx127_0 :)
          replace hx127_1:=(ct HB.out hx127_1 :)
          replace hx127_2:=(ct HB.out hx127_2 :)
          have HR127_2:=am hi127_2;have HC127_2:=am hl127_2;clear hi127_2 hl127_2;replace p127:=eq_true p127;replace q127:=eq_true q127;have p129 : 0 ≤ (x4_1 : Int):=odt qq103;have q129 : x4_1 < (l0.length : Int):=odt qq103;obtain ⟨ad129,A129_2,c129_2,e129,hx129_0,hx129_1,hx129_2,hl129_2,hi129_2⟩:=at_T45 HR0.out x4_1 p129 q129;have hw129_2:=hx129_2;have hw129_1:=hx129_1;have hw129_0:=hx129_0;obtain rfl : ad127 = ad129:=(by injection e129)
          replace hx129_0:=(ct HB.out hx129_0 :)
          replace hx129_1:=(ct HB.out hx129_1 :)
          replace hx129_2:=(ct HB.out hx129_2 :)
          have HR129_2:=am hi129_2;have HC129_2:=am hl129_2;clear hi129_2 hl129_2;replace p129:=eq_true p129;replace q129:=eq_true q129;have ea_:=Option.some.inj (hx127_2.symm.trans hx129_2)
          injection ea_ with ea_ en_ ec_
          subst ea_;subst ec_;clear en_;have p131 : 0 ≤ (x4_1 : Int):=odt qq103;have q131 : x4_1 < (l0.length : Int):=odt qq103;obtain ⟨ad131,A131_2,c131_2,e131,hx131_0,hx131_1,hx131_2,hl131_2,hi131_2⟩:=at_T45 HR0.out x4_1 p131 q131;have hw131_2:=hx131_2;have hw131_1:=hx131_1;have hw131_0:=hx131_0;obtain rfl : ad127 = ad131:=(by injection e131)
          replace hx131_0:=(ct HB.out hx131_0 :)
          replace hx131_1:=(ct HB.out hx131_1 :)
          replace hx131_2:=(ct HB.out hx131_2 :)
          have HR131_2:=am hi131_2;have HC131_2:=am hl131_2;clear hi131_2 hl131_2;replace p131:=eq_true p131;replace q131:=eq_true q131;have ea_:=Option.some.inj (hx127_2.symm.trans hx131_2)
          injection ea_ with ea_ en_ ec_
          subst ea_;subst ec_;clear en_;have p132 : 0 ≤ (x4_1 : Int):=odt qq103;have q132 : x4_1 < (l0.length : Int):=odt qq103;obtain ⟨ad132,A132_2,c132_2,e132,hx132_0,hx132_1,hx132_2,hl132_2,hi132_2⟩:=at_T45 HR0.out x4_1 p132 q132;have hw132_2:=hx132_2;have hw132_1:=hx132_1;have hw132_0:=hx132_0;obtain rfl : ad127 = ad132:=(by injection e132)
          replace hx132_0:=(ct HB.out hx132_0 :)
          replace hx132_1:=(ct HB.out hx132_1 :)
          replace hx132_2:=(ct HB.out hx132_2 :)
          have HR132_2:=am hi132_2;have HC132_2:=am hl132_2;clear hi132_2 hl132_2;replace p132:=eq_true p132;replace q132:=eq_true q132;have ea_:=Option.some.inj (hx127_2.symm.trans hx132_2)
          injection ea_ with ea_ en_ ec_
          subst ea_;subst ec_;clear en_;refine start_ (n:=48) (S:=fun w' => w'.cell? (ad127.add ((x4_1).toNat * 3)) = some (.int .i64 ((rd_T45 l0 x4_1).f0)) ∧ w'.cell? ⟨(ad127.add ((x4_1).toNat * 3)).block,(ad127.add ((x4_1).toNat * 3)).off + 1,none⟩ = some (.int .i64 ((rd_T45 l0 x4_1).f1)) ∧ w'.cell? ⟨(ad127.add ((x4_1).toNat * 3)).block,(ad127.add ((x4_1).toNat * 3)).off + 2,none⟩ = some (.slice A127_2 ((rd_T45 l0 x4_1).f2).length c127_2) ∧ w'.cell? (ad127.add ((x4_1).toNat * 3)) = some (.int .i64 ((rd_T45 l0 x4_1).f0)) ∧ w'.cell? ⟨(ad127.add ((x4_1).toNat * 3)).block,(ad127.add ((x4_1).toNat * 3)).off + 1,none⟩ = some (.int .i64 ((rd_T45 l0 x4_1).f1)) ∧ w'.cell? ⟨(ad127.add ((x4_1).toNat * 3)).block,(ad127.add ((x4_1).toNat * 3)).off + 2,none⟩ = some (.slice A127_2 ((rd_T45 l0 x4_1).f2).length c127_2) ∧ w'.cell? (ad127.add ((x4_1).toNat * 3)) = some (.int .i64 ((rd_T45 l0 x4_1).f0)) ∧ w'.cell? ⟨(ad127.add ((x4_1).toNat * 3)).block,(ad127.add ((x4_1).toNat * 3)).off + 1,none⟩ = some (.int .i64 ((rd_T45 l0 x4_1).f1)) ∧ w'.cell? ⟨(ad127.add ((x4_1).toNat * 3)).block,(ad127.add ((x4_1).toNat * 3)).off + 2,none⟩ = some (.slice A127_2 ((rd_T45 l0 x4_1).f2).length c127_2) ∧ w'.cell? (ad127.add ((x4_1).toNat * 3)) = some (.int .i64 ((rd_T45 l0 x4_1).f0)) ∧ w'.cell? ⟨(ad127.add ((x4_1).toNat * 3)).block,(ad127.add ((x4_1).toNat * 3)).off + 1,none⟩ = some (.int .i64 ((rd_T45 l0 x4_1).f1)) ∧ w'.cell? ⟨(ad127.add ((x4_1).toNat * 3)).block,(ad127.add ((x4_1).toNat * 3)).off + 2,none⟩ = some (.slice A127_2 ((rd_T45 l0 x4_1).f2).length c127_2)) (ds:=[]) m0_2 (by kernel_rfl) rfl rfl ⟨(ct HB.out hw127_0 :),(ct HB.out hw127_1 :),(ct HB.out hw127_2 :),(ct HB.out hw129_0 :),(ct HB.out hw129_1 :),(ct HB.out hw129_2 :),(ct HB.out hw131_0 :),(ct HB.out hw131_1 :),(ct HB.out hw131_2 :),(ct HB.out hw132_0 :),(ct HB.out hw132_1 :),(ct HB.out hw132_2 :)⟩ (fun hHeld => ?_);refine with_tabW spec_AreTents.tab5 spec_AreTents.bits5 (fun HT_ HW_ => ?_)
          generalize wr.drew = w18 at HO_3 HB HR127_2 HR129_2 HR131_2 HR132_2 hx127_0 hx127_1 hx127_2 hx129_0 hx129_1 hx129_2 hx131_0 hx131_1 hx131_2 hx132_0 hx132_1 hx132_2 hHeld ⊢
          refine pV (i:=0) (N:=some 13) m1_2 rfl rfl qT ?_
          refine pV (i:=1) (N:=some 14) m2_2 rfl rfl qT ?_
          refine pV (i:=2) (N:=some 15) m3_2 rfl rfl qT ?_
          refine pV (i:=3) (N:=some 16) m4_2 rfl rfl qT ?_
          refine take_ (i:=4) (N:=some 17) (v:=?_) (a':=?_) m5_2 rfl rfl (take_ofW HT_.out HW_.out (by kernel_rfl)) (fun _ _ _ h => h) (Or.inl ⟨by rfl,?_⟩) hHeld ?_ ?_;rotate_left
          ·rintro w' ⟨s0,s1,s2,s3,s4,s5,s6,s7,s8,s9,s10,s11⟩
           go_simp;with_reducible rfl
          rotate_left
          ·simp only [Act.put,sA,s0,s1,i64_w,i32_w];rfl
          refine one_ (i:=5) (N:=some 18) m6_2 rfl rfl (one_of HT_.out (by kernel_rfl)) (by decide) (fun K hK => ?_);refine goes_ Try.func47 (by kernel_rfl) rfl #[.int .i64 ((rd_T45 l0 x4_1).f0),.int .i64 1,.int .i64 99] (by rfl) rfl rfl qq48 ?_;with_reducible refine (spec_l1In.calls ((rd_T45 l0 x4_1).f0) 1 99 true _ A7.out).mono ?_
          rintro e w' ⟨rfl,⟨nd,rfl⟩⟩
          refine ⟨_,rfl,?_⟩;refine hK.out _ _ ⟨(ct HB.out hw127_0 :),(ct HB.out hw127_1 :),(ct HB.out hw127_2 :),(ct HB.out hw129_0 :),(ct HB.out hw129_1 :),(ct HB.out hw129_2 :),(ct HB.out hw131_0 :),(ct HB.out hw131_1 :),(ct HB.out hw131_2 :),(ct HB.out hw132_0 :),(ct HB.out hw132_1 :),(ct HB.out hw132_2 :)⟩ (fun hHeld => ?_);clear hK K;refine norm_ (a':=?_) ?_ ?_;rotate_left
          ·show Act.put _ (some 18) _ = _
           simp only [Act.put,sA,s0,s1,i64_w,i32_w];rfl
          refine pV (i:=6) (N:=some 19) m7_2 rfl rfl qT ?_
          refine pV (i:=7) (N:=some 20) m8_2 rfl rfl qT ?_
          refine pV (i:=8) (N:=some 21) m9_2 rfl rfl qT ?_
          refine pV (i:=9) (N:=some 22) m10_2 rfl rfl qT ?_
          refine pV (i:=10) (N:=some 23) m11_2 rfl rfl qT ?_
          refine pV (i:=11) (N:=some 24) m12_2 rfl rfl qT ?_
          refine take_ (i:=12) (N:=some 25) (v:=?_) (a':=?_) m13_2 rfl rfl (take_ofW HT_.out HW_.out (by kernel_rfl)) (fun _ _ _ h => h) (Or.inl ⟨by rfl,?_⟩) hHeld ?_ ?_;rotate_left
          ·rintro w' ⟨s0,s1,s2,s3,s4,s5,s6,s7,s8,s9,s10,s11⟩
           go_simp;with_reducible rfl
          rotate_left
          ·simp only [Act.put,sA,s0,s1,i64_w,i32_w];rfl
          refine one_ (i:=13) (N:=some 26) m14_2 rfl rfl (one_of HT_.out (by kernel_rfl)) (by decide) (fun K hK => ?_);refine goes_ Try.func47 (by kernel_rfl) rfl #[.int .i64 ((rd_T45 l0 x4_1).f1),.int .i64 1,.int .i64 6] (by rfl) rfl rfl qq48 ?_;with_reducible refine (spec_l1In.calls ((rd_T45 l0 x4_1).f1) 1 6 true _ A9.out).mono ?_
          rintro e w' ⟨rfl,⟨nd,rfl⟩⟩
          refine ⟨_,rfl,?_⟩;refine hK.out _ _ ⟨(ct HB.out hw127_0 :),(ct HB.out hw127_1 :),(ct HB.out hw127_2 :),(ct HB.out hw129_0 :),(ct HB.out hw129_1 :),(ct HB.out hw129_2 :),(ct HB.out hw131_0 :),(ct HB.out hw131_1 :),(ct HB.out hw131_2 :),(ct HB.out hw132_0 :),(ct HB.out hw132_1 :),(ct HB.out hw132_2 :)⟩ (fun hHeld => ?_);clear hK K;refine norm_ (a':=?_) ?_ ?_;rotate_left
          ·show Act.put _ (some 26) _ = _
           simp only [Act.put,sA,s0,s1,i64_w,i32_w];rfl
          refine pV (i:=14) (N:=some 27) m15_2 rfl rfl qT ?_
          refine pV (i:=15) (N:=some 28) m16_2 rfl rfl qT ?_
          refine pV (i:=16) (N:=some 29) m17_2 rfl rfl qT ?_
          refine pV (i:=17) (N:=some 30) m18_2 rfl rfl qT ?_
          refine pV (i:=18) (N:=some 31) m19_2 rfl rfl qT ?_
          refine pV (i:=19) (N:=some 32) m20_2 rfl rfl qT ?_
          refine pV (i:=20) (N:=some 33) m21_2 rfl rfl qT ?_
          refine pV (i:=23) (N:=some 36) m22_2 rfl rfl qT ?_
          refine pV (i:=24) (N:=some 37) m23_2 rfl rfl qT ?_
          refine pV (i:=25) (N:=some 38) m24_2 rfl rfl qT ?_
          refine pV (i:=26) (N:=some 39) m25_2 rfl rfl qT ?_
          refine take_ (i:=21) (N:=some 34) (v:=?_) (a':=?_) m26_2 rfl rfl (take_ofW HT_.out HW_.out (by kernel_rfl)) (fun _ _ _ h => h) (Or.inl ⟨by rfl,?_⟩) hHeld ?_ ?_;rotate_left
          ·rintro w' ⟨s0,s1,s2,s3,s4,s5,s6,s7,s8,s9,s10,s11⟩
           go_simp;with_reducible rfl
          rotate_left
          ·simp only [Act.put,sA,s0,s1,i64_w,i32_w];rfl
          refine pV (i:=22) (N:=some 35) m27_2 rfl rfl qT ?_
          refine take_ (i:=27) (N:=some 40) (v:=?_) (a':=?_) m28_2 rfl rfl (take_ofW HT_.out HW_.out (by kernel_rfl)) (fun _ _ _ h => h) (Or.inl ⟨by rfl,?_⟩) hHeld ?_ ?_;rotate_left
          ·rintro w' ⟨s0,s1,s2,s3,s4,s5,s6,s7,s8,s9,s10,s11⟩
           go_simp;with_reducible rfl
          rotate_left
          ·simp only [Act.put,sA,s0,s1,i64_w,i32_w];rfl
          refine pV (i:=28) (N:=some 41) m29_2 rfl rfl qT ?_
          refine pV (i:=29) (N:=some 42) m30_2 rfl rfl qT ?_
          refine pV (i:=30) (N:=some 43) m31_2 rfl rfl qT ?_
          refine pV (i:=31) (N:=some 44) m32_2 rfl rfl qT ?_
          refine pV (i:=32) (N:=some 45) m33_2 rfl rfl qT ?_
          refine pV (i:=33) (N:=some 46) m34_2 rfl rfl qT ?_
          refine pW (i:=34) (N:=some 47) m35_2 rfl rfl qT ?_
          refine pW (i:=35) (N:=some 48) m36_2 rfl rfl qT ?_
          refine pW (i:=36) (N:=some 49) m37_2 rfl rfl qT ?_
          refine pW (i:=37) (N:=some 50) m38_2 rfl rfl qT ?_
          refine pW (i:=38) (N:=some 51) m39_2 rfl rfl qT ?_
          refine pW (i:=39) (N:=some 52) m40_2 rfl rfl qT ?_
          refine pW (i:=40) (N:=some 53) m41_2 rfl rfl qT ?_
          refine pW (i:=41) (N:=some 54) m42_2 rfl rfl qT ?_
          refine pW (i:=42) (N:=some 55) m43_2 rfl rfl qT ?_
          refine pW (i:=43) (N:=some 56) m44_2 rfl rfl qT ?_
          refine pW (i:=44) (N:=some 57) m45_2 rfl rfl qT ?_
          refine pW (i:=45) (N:=some 58) m46_2 rfl rfl qT ?_
          refine pV (i:=46) (N:=some 59) m47_2 rfl rfl qT ?_
          refine pV (i:=47) (N:=some 60) m48_2 rfl rfl qT ?_
          refine done_ (done_of HT_.out (by kernel_rfl)) ?_
          try go_wp2
          go_meet
          case rel => exact ⟨_,(false),qq105,H',⟨qq102⟩,⟨qq99⟩,⟨qq80⟩⟩
       ·replace c10:=Bool.eq_false_iff.mpr c10;subst c10;have H1 : (spec_AreTents.j1 k1 l0 x3_1 x4_1 true) = some r:=by rw [if_neg (show ¬ (false = true) by decide)] at H;exact H
        clear H;have H:=H1;clear H1;have H':=am H;clear H
        try go_wp2
        replace HO_3:=am qq155;replace HB:=am qq154;have p127 : 0 ≤ (x4_1 : Int):=odt qq103;have q127 : x4_1 < (l0.length : Int):=odt qq103;obtain ⟨ad127,A127_2,c127_2,e127,hx127_0,hx127_1,hx127_2,hl127_2,hi127_2⟩:=at_T45 HR0.out x4_1 p127 q127;have hw127_2:=hx127_2;have hw127_1:=hx127_1;have hw127_0:=hx127_0
        cases e127
        replace hx127_0:=(ct HB.out hx127_0 :)
        replace hx127_1:=(ct HB.out hx127_1 :)
        replace hx127_2:=(ct HB.out hx127_2 :)
        have HR127_2:=am hi127_2;have HC127_2:=am hl127_2;clear hi127_2 hl127_2;replace p127:=eq_true p127;replace q127:=eq_true q127;have p129 : 0 ≤ (x4_1 : Int):=odt qq103;have q129 : x4_1 < (l0.length : Int):=odt qq103;obtain ⟨ad129,A129_2,c129_2,e129,hx129_0,hx129_1,hx129_2,hl129_2,hi129_2⟩:=at_T45 HR0.out x4_1 p129 q129;have hw129_2:=hx129_2;have hw129_1:=hx129_1;have hw129_0:=hx129_0;obtain rfl : ad127 = ad129:=(by injection e129)
        replace hx129_0:=(ct HB.out hx129_0 :)
        replace hx129_1:=(ct HB.out hx129_1 :)
        replace hx129_2:=(ct HB.out hx129_2 :)
        have HR129_2:=am hi129_2;have HC129_2:=am hl129_2;clear hi129_2 hl129_2;replace p129:=eq_true p129;replace q129:=eq_true q129;have ea_:=Option.some.inj (hx127_2.symm.trans hx129_2)
        injection ea_ with ea_ en_ ec_
        subst ea_;subst ec_;clear en_;refine start_ (n:=48) (S:=fun w' => w'.cell? (ad127.add ((x4_1).toNat * 3)) = some (.int .i64 ((rd_T45 l0 x4_1).f0)) ∧ w'.cell? ⟨(ad127.add ((x4_1).toNat * 3)).block,(ad127.add ((x4_1).toNat * 3)).off + 1,none⟩ = some (.int .i64 ((rd_T45 l0 x4_1).f1)) ∧ w'.cell? ⟨(ad127.add ((x4_1).toNat * 3)).block,(ad127.add ((x4_1).toNat * 3)).off + 2,none⟩ = some (.slice A127_2 ((rd_T45 l0 x4_1).f2).length c127_2) ∧ w'.cell? (ad127.add ((x4_1).toNat * 3)) = some (.int .i64 ((rd_T45 l0 x4_1).f0)) ∧ w'.cell? ⟨(ad127.add ((x4_1).toNat * 3)).block,(ad127.add ((x4_1).toNat * 3)).off + 1,none⟩ = some (.int .i64 ((rd_T45 l0 x4_1).f1)) ∧ w'.cell? ⟨(ad127.add ((x4_1).toNat * 3)).block,(ad127.add ((x4_1).toNat * 3)).off + 2,none⟩ = some (.slice A127_2 ((rd_T45 l0 x4_1).f2).length c127_2)) (ds:=[]) m0_2 (by kernel_rfl) rfl rfl ⟨(ct HB.out hw127_0 :),(ct HB.out hw127_1 :),(ct HB.out hw127_2 :),(ct HB.out hw129_0 :),(ct HB.out hw129_1 :),(ct HB.out hw129_2 :)⟩ (fun hHeld => ?_);refine with_tabW spec_AreTents.tab5 spec_AreTents.bits5 (fun HT_ HW_ => ?_)
        generalize wr.drew = w19 at HO_3 HB HR127_2 HR129_2 hx127_0 hx127_1 hx127_2 hx129_0 hx129_1 hx129_2 hHeld ⊢
        refine pV (i:=0) (N:=some 13) m1_2 rfl rfl qT ?_
        refine pV (i:=1) (N:=some 14) m2_2 rfl rfl qT ?_
        refine pV (i:=2) (N:=some 15) m3_2 rfl rfl qT ?_
        refine pV (i:=3) (N:=some 16) m4_2 rfl rfl qT ?_
        refine tV6 (i:=4) (N:=some 17) m5_2 rfl rfl (take_ofW HT_.out HW_.out (by kernel_rfl)) hHeld ?_
        refine one_ (i:=5) (N:=some 18) m6_2 rfl rfl (one_of HT_.out (by kernel_rfl)) (by decide) (fun K hK => ?_);refine goes_ Try.func47 (by kernel_rfl) rfl #[.int .i64 ((rd_T45 l0 x4_1).f0),.int .i64 1,.int .i64 99] (by rfl) rfl rfl qq48 ?_;with_reducible refine (spec_l1In.calls ((rd_T45 l0 x4_1).f0) 1 99 true _ A7.out).mono ?_
        rintro e w' ⟨rfl,⟨nd,rfl⟩⟩
        refine ⟨_,rfl,?_⟩;refine hK.out _ _ ⟨(ct HB.out hw127_0 :),(ct HB.out hw127_1 :),(ct HB.out hw127_2 :),(ct HB.out hw129_0 :),(ct HB.out hw129_1 :),(ct HB.out hw129_2 :)⟩ (fun hHeld => ?_);clear hK K;refine norm_ (a':=?_) ?_ ?_;rotate_left
        ·show Act.put _ (some 18) _ = _
         simp only [Act.put,sA,s0,s1,i64_w,i32_w];rfl
        refine pV (i:=6) (N:=some 19) m7_2 rfl rfl qT ?_
        refine pV (i:=7) (N:=some 20) m8_2 rfl rfl qT ?_
        refine pV (i:=8) (N:=some 21) m9_2 rfl rfl qT ?_
        refine pV (i:=9) (N:=some 22) m10_2 rfl rfl qT ?_
        refine pV (i:=10) (N:=some 23) m11_2 rfl rfl qT ?_
        refine pV (i:=11) (N:=some 24) m12_2 rfl rfl qT ?_
        refine tV6 (i:=12) (N:=some 25) m13_2 rfl rfl (take_ofW HT_.out HW_.out (by kernel_rfl)) hHeld ?_
        refine one_ (i:=13) (N:=some 26) m14_2 rfl rfl (one_of HT_.out (by kernel_rfl)) (by decide) (fun K hK => ?_);refine goes_ Try.func47 (by kernel_rfl) rfl #[.int .i64 ((rd_T45 l0 x4_1).f1),.int .i64 1,.int .i64 6] (by rfl) rfl rfl qq48 ?_;with_reducible refine (spec_l1In.calls ((rd_T45 l0 x4_1).f1) 1 6 false _ A9.out).mono ?_
        rintro e w' ⟨rfl,⟨nd,rfl⟩⟩
        refine ⟨_,rfl,?_⟩;refine hK.out _ _ ⟨(ct HB.out hw127_0 :),(ct HB.out hw127_1 :),(ct HB.out hw127_2 :),(ct HB.out hw129_0 :),(ct HB.out hw129_1 :),(ct HB.out hw129_2 :)⟩ (fun hHeld => ?_);clear hK K;refine norm_ (a':=?_) ?_ ?_;rotate_left
        ·show Act.put _ (some 26) _ = _
         simp only [Act.put,sA,s0,s1,i64_w,i32_w];rfl
        refine pV (i:=14) (N:=some 27) m15_2 rfl rfl qT ?_
        refine pV (i:=15) (N:=some 28) m16_2 rfl rfl qT ?_
        refine pV (i:=16) (N:=some 29) m17_2 rfl rfl qT ?_
        refine pW (i:=17) (N:=some 30) m18_2 rfl rfl qT ?_
        refine pW (i:=18) (N:=some 31) m19_2 rfl rfl qT ?_
        refine pW (i:=19) (N:=some 32) m20_2 rfl rfl qT ?_
        refine pW (i:=20) (N:=some 33) m21_2 rfl rfl qT ?_
        refine pW (i:=21) (N:=some 34) m49_2 rfl rfl qT ?_
        refine pW (i:=22) (N:=some 35) m50_2 rfl rfl qT ?_
        refine pW (i:=23) (N:=some 36) m51_2 rfl rfl qT ?_
        refine pW (i:=24) (N:=some 37) m52_2 rfl rfl qT ?_
        refine pW (i:=25) (N:=some 38) m53_2 rfl rfl qT ?_
        refine pW (i:=26) (N:=some 39) m27_2 rfl rfl qT ?_
        refine pW (i:=27) (N:=some 40) m28_2 rfl rfl qT ?_
        refine pW (i:=28) (N:=some 41) m29_2 rfl rfl qT ?_
        refine pV (i:=29) (N:=some 42) m30_2 rfl rfl qT ?_
        refine pV (i:=30) (N:=some 43) m31_2 rfl rfl qT ?_
        refine pW (i:=31) (N:=some 44) m32_2 rfl rfl qT ?_
        refine pW (i:=32) (N:=some 45) m33_2 rfl rfl qT ?_
        refine pW (i:=33) (N:=some 46) m34_2 rfl rfl qT ?_
        refine pW (i:=34) (N:=some 47) m35_2 rfl rfl qT ?_
        refine pW (i:=35) (N:=some 48) m36_2 rfl rfl qT ?_
        refine pW (i:=36) (N:=some 49) m37_2 rfl rfl qT ?_
        refine pW (i:=37) (N:=some 50) m38_2 rfl rfl qT ?_
        refine pW (i:=38) (N:=some 51) m39_2 rfl rfl qT ?_
        refine pW (i:=39) (N:=some 52) m40_2 rfl rfl qT ?_
        refine pW (i:=40) (N:=some 53) m41_2 rfl rfl qT ?_
        refine pW (i:=41) (N:=some 54) m42_2 rfl rfl qT ?_
        refine pW (i:=42) (N:=some 55) m43_2 rfl rfl qT ?_
        refine pW (i:=43) (N:=some 56) m44_2 rfl rfl qT ?_
        refine pW (i:=44) (N:=some 57) m45_2 rfl rfl qT ?_
        refine pW (i:=45) (N:=some 58) m46_2 rfl rfl qT ?_
        refine pW (i:=46) (N:=some 59) m47_2 rfl rfl qT ?_
        refine pV (i:=47) (N:=some 60) m48_2 rfl rfl qT ?_
        refine done_ (done_of HT_.out (by kernel_rfl)) ?_
        try go_wp2
        go_meet
        case rel => exact ⟨_,(true),qq105,H',⟨qq102⟩,⟨qq99⟩,⟨qq80⟩⟩
      ·replace c8:=Bool.eq_false_iff.mpr c8;subst c8;have H1 : (spec_AreTents.j1 k1 l0 x3_1 x4_1 true) = some r:=by rw [if_neg (show ¬ (false = true) by decide)] at H;exact H
       clear H;have H:=H1;clear H1;have H':=am H;clear H
       try go_wp2
       replace HO_3:=am qq155;replace HB:=am qq154;have p127 : 0 ≤ (x4_1 : Int):=odt qq103;have q127 : x4_1 < (l0.length : Int):=odt qq103;obtain ⟨ad127,A127_2,c127_2,e127,hx127_0,hx127_1,hx127_2,hl127_2,hi127_2⟩:=at_T45 HR0.out x4_1 p127 q127;have hw127_2:=hx127_2;have hw127_1:=hx127_1;have hw127_0:=hx127_0
       cases e127
       replace hx127_0:=(ct HB.out hx127_0 :)
       replace hx127_1:=(ct HB.out hx127_1 :)
       replace hx127_2:=(ct HB.out hx127_2 :)
       have HR127_2:=am hi127_2;have HC127_2:=am hl127_2;clear hi127_2 hl127_2;replace p127:=eq_true p127;replace q127:=eq_true q127;refine start_ (n:=48) (S:=fun w' => w'.cell? (ad127.add ((x4_1).toNat * 3)) = some (.int .i64 ((rd_T45 l0 x4_1).f0)) ∧ w'.cell? ⟨(ad127.add ((x4_1).toNat * 3)).block,(ad127.add ((x4_1).toNat * 3)).off + 1,none⟩ = some (.int .i64 ((rd_T45 l0 x4_1).f1)) ∧ w'.cell? ⟨(ad127.add ((x4_1).toNat * 3)).block,(ad127.add ((x4_1).toNat * 3)).off + 2,none⟩ = some (.slice A127_2 ((rd_T45 l0 x4_1).f2).length c127_2)) (ds:=[]) m0_2 (by kernel_rfl) rfl rfl ⟨(ct HB.out hw127_0 :),(ct HB.out hw127_1 :),(ct HB.out hw127_2 :)⟩ (fun hHeld => ?_);refine with_tabW spec_AreTents.tab5 spec_AreTents.bits5 (fun HT_ HW_ => ?_)
       generalize wr.drew = w20 at HO_3 HB HR127_2 hx127_0 hx127_1 hx127_2 hHeld ⊢
       refine pV (i:=0) (N:=some 13) m1_2 rfl rfl qT ?_
       refine pV (i:=1) (N:=some 14) m2_2 rfl rfl qT ?_
       refine pV (i:=2) (N:=some 15) m3_2 rfl rfl qT ?_
       refine pV (i:=3) (N:=some 16) m4_2 rfl rfl qT ?_
       refine tV3 (i:=4) (N:=some 17) m5_2 rfl rfl (take_ofW HT_.out HW_.out (by kernel_rfl)) hHeld ?_
       refine one_ (i:=5) (N:=some 18) m6_2 rfl rfl (one_of HT_.out (by kernel_rfl)) (by decide) (fun K hK => ?_);refine goes_ Try.func47 (by kernel_rfl) rfl #[.int .i64 ((rd_T45 l0 x4_1).f0),.int .i64 1,.int .i64 99] (by rfl) rfl rfl qq48 ?_;with_reducible refine (spec_l1In.calls ((rd_T45 l0 x4_1).f0) 1 99 false _ A7.out).mono ?_
       rintro e w' ⟨rfl,⟨nd,rfl⟩⟩
       refine ⟨_,rfl,?_⟩;refine hK.out _ _ ⟨(ct HB.out hw127_0 :),(ct HB.out hw127_1 :),(ct HB.out hw127_2 :)⟩ (fun hHeld => ?_);clear hK K;refine norm_ (a':=?_) ?_ ?_;rotate_left
       ·show Act.put _ (some 18) _ = _
        simp only [Act.put,sA,s0,s1,i64_w,i32_w];rfl
       refine pV (i:=6) (N:=some 19) m7_2 rfl rfl qT ?_
       refine pV (i:=7) (N:=some 20) m8_2 rfl rfl qT ?_
       refine pW (i:=8) (N:=some 21) m9_2 rfl rfl qT ?_
       refine pW (i:=9) (N:=some 22) m10_2 rfl rfl qT ?_
       refine pW (i:=10) (N:=some 23) m11_2 rfl rfl qT ?_
       refine pW (i:=11) (N:=some 24) m12_2 rfl rfl qT ?_
       refine pW (i:=12) (N:=some 25) m13_2 rfl rfl qT ?_
       refine pW (i:=13) (N:=some 26) m14_2 rfl rfl qT ?_
       refine pW (i:=14) (N:=some 27) m15_2 rfl rfl qT ?_
       refine pV (i:=15) (N:=some 28) m16_2 rfl rfl qT ?_
       refine pV (i:=16) (N:=some 29) m17_2 rfl rfl qT ?_
       refine pW (i:=17) (N:=some 30) m18_2 rfl rfl qT ?_
       refine pW (i:=18) (N:=some 31) m19_2 rfl rfl qT ?_
       refine pW (i:=19) (N:=some 32) m20_2 rfl rfl qT ?_
       refine pW (i:=20) (N:=some 33) m21_2 rfl rfl qT ?_
       refine pW (i:=21) (N:=some 34) m49_2 rfl rfl qT ?_
       refine pW (i:=22) (N:=some 35) m50_2 rfl rfl qT ?_
       refine pW (i:=23) (N:=some 36) m51_2 rfl rfl qT ?_
       refine pW (i:=24) (N:=some 37) m52_2 rfl rfl qT ?_
       refine pW (i:=25) (N:=some 38) m53_2 rfl rfl qT ?_
       refine pW (i:=26) (N:=some 39) m27_2 rfl rfl qT ?_
       refine pW (i:=27) (N:=some 40) m28_2 rfl rfl qT ?_
       refine pW (i:=28) (N:=some 41) m29_2 rfl rfl qT ?_
       refine pV (i:=29) (N:=some 42) m30_2 rfl rfl qT ?_
       refine pV (i:=30) (N:=some 43) m31_2 rfl rfl qT ?_
       refine pW (i:=31) (N:=some 44) m32_2 rfl rfl qT ?_
       refine pW (i:=32) (N:=some 45) m33_2 rfl rfl qT ?_
       refine pW (i:=33) (N:=some 46) m34_2 rfl rfl qT ?_
       refine pW (i:=34) (N:=some 47) m35_2 rfl rfl qT ?_
       refine pW (i:=35) (N:=some 48) m36_2 rfl rfl qT ?_
       refine pW (i:=36) (N:=some 49) m37_2 rfl rfl qT ?_
       refine pW (i:=37) (N:=some 50) m38_2 rfl rfl qT ?_
       refine pW (i:=38) (N:=some 51) m39_2 rfl rfl qT ?_
       refine pW (i:=39) (N:=some 52) m40_2 rfl rfl qT ?_
       refine pW (i:=40) (N:=some 53) m41_2 rfl rfl qT ?_
       refine pW (i:=41) (N:=some 54) m42_2 rfl rfl qT ?_
       refine pW (i:=42) (N:=some 55) m43_2 rfl rfl qT ?_
       refine pW (i:=43) (N:=some 56) m44_2 rfl rfl qT ?_
       refine pW (i:=44) (N:=some 57) m45_2 rfl rfl qT ?_
       refine pW (i:=45) (N:=some 58) m46_2 rfl rfl qT ?_
       refine pW (i:=46) (N:=some 59) m47_2 rfl rfl qT ?_
       refine pV (i:=47) (N:=some 60) m48_2 rfl rfl qT ?_
       refine done_ (done_of HT_.out (by kernel_rfl)) ?_
       try go_wp2
       go_meet
       case rel => exact ⟨_,(true),qq105,H',⟨qq102⟩,⟨qq99⟩,⟨qq80⟩⟩
     ·rw [if_neg c6] at H;exact absurd H (by simp)
    case rest =>
     clear HC5
     try clear c1
     try clear p1
     try clear q1
     try clear hx1
     try clear p2
     try clear c4
     try clear c6
     try clear c8
     try clear c12
     try clear p12
     try clear q12
     try clear hx12
     try clear hx127_0
     try clear hx127_1
     try clear hx127_2
     try clear hx129_0
     try clear hx129_1
     try clear hx129_2
     try clear p127
     try clear p129
     try clear q127
     try clear q129
     obtain ⟨kq,x60_4,rfl,HA,HJ4,HO_3,HB⟩:=hcut
     cases kq with
     | zero => exact absurd HA.out (by simp [spec_AreTents.j1])
     | succ kj4 =>
      have H:=HA.out;clear HA;simp only [spec_AreTents.j1] at H
      by_cases c21 : x60_4 = true
      ·subst c21;have H1 : (some false) = some r:=by rw [if_pos rfl] at H;exact H
       clear H;have H:=H1;clear H1;obtain rfl:=Option.some.inj H;go_wp2
       go_ret
       exact ⟨qq93,qq80⟩
      ·replace c21:=Bool.eq_false_iff.mpr c21;subst c21;have H1 : (spec_AreTents.l1 kj4 l0 x3_1 x4_1 0) = some r:=by rw [if_neg (show ¬ (false = true) by decide)] at H;exact H
       clear H;have H:=H1;clear H1;have H':=am H;clear H;go_wp2
       go_loopg [3,5] kj4 (fun kq v3 v5 w' => ∃ (x3_3 : List Int) (x5_3 : Int),v5 = .int .i64 x5_3 ∧ Aside0 (spec_AreTents.l1 kq l0 x3_3 x4_1 x5_3 = some r) ∧ Aside0 (kq ≤ kj4) ∧ Aside0 (Kd.R (Kd.int .i64) 3 w' w.heap.size (fun _ => True) v3 x3_3) ∧ Aside0 (Below w.heap.size w w'))
       case atStart => exact ⟨(x3_1),(0),qq105,H',⟨Nat.le_refl _⟩,⟨qq99⟩,⟨qq80⟩⟩
       case round =>
        clear H'
        try clear c1
        try clear p1
        try clear q1
        try clear hx1
        try clear c2
        try clear p2
        try clear c4
        try clear c6
        try clear c8
        try clear c12
        try clear p12
        try clear q12
        try clear hx12
        try clear c21
        try clear hx127_0
        try clear hx127_1
        try clear hx127_2
        try clear hx129_0
        try clear hx129_1
        try clear hx129_2
        try clear p1
        try clear p12
        try clear p127
        try clear p129
        try clear p2
        try clear q1
        try clear q12
        try clear q127
        try clear q129
        obtain ⟨x3_3,x5_3,rfl,HA,HK3,HO_3,HB⟩:=hrel
        cases gk with
        | zero => exact absurd HA.out (by simp [spec_AreTents.l1])
        | succ k3 =>
         have H:=HA.out;clear HA;simp only [spec_AreTents.l1] at H
         by_cases c22 : 0 ≤ x4_1
         ·rw [if_pos c22] at H;have c22b0 : decide (0 ≤ x4_1) = true:=decide_eq_true c22;clear c22
          by_cases c23 : x4_1 < (l0.length : Int)
          ·rw [if_pos c23] at H;have c23b0 : decide (x4_1 < (l0.length : Int)) = true:=decide_eq_true c23;clear c23
           by_cases c24 : x5_3 < (((rd_T45 l0 x4_1).f2).length : Int)
           ·rw [if_pos c24] at H;have c24b0 : decide (x5_3 < (((rd_T45 l0 x4_1).f2).length : Int)) = true:=decide_eq_true c24;clear c24
            by_cases c25 : 0 ≤ x5_3
            ·rw [if_pos c25] at H;have c25b0 : decide (0 ≤ x5_3) = true:=decide_eq_true c25;clear c25;replace H:=bS.mp H;obtain ⟨t138,A260,H⟩:=H;replace H : (if t138 = true then (some false) else (if x3_3.length < 17592186044416 then (spec_AreTents.l1 k3 l0 (x3_3 ++ [rd ((rd_T45 l0 x4_1).f2) x5_3]) x4_1 (wrap64 (x5_3 + 1))) else (none))) = some r:=H;have A26:=am A260;clear A260
             by_cases c27 : t138 = true
             ·subst c27;have H1 : (some false) = some r:=by rw [if_pos rfl] at H;exact H
              clear H;have H:=H1;clear H1;obtain rfl:=Option.some.inj H;have p135 : 0 ≤ (x4_1 : Int):=odt qq103;have q135 : x4_1 < (l0.length : Int):=odt qq103;obtain ⟨ad135,A135_2,c135_2,e135,hx135_0,hx135_1,hx135_2,hl135_2,hi135_2⟩:=at_T45 HR0.out x4_1 p135 q135
              cases e135
              replace hx135_0:=(ct HB.out hx135_0 :)
              replace hx135_1:=(ct HB.out hx135_1 :)
              replace hx135_2:=(ct HB.out hx135_2 :)
              have HR135_2:=am hi135_2;have HC135_2:=am hl135_2;clear hi135_2 hl135_2;replace p135:=eq_true p135;replace q135:=eq_true q135;have p136 : 0 ≤ (x4_1 : Int):=odt qq103;have q136 : x4_1 < (l0.length : Int):=odt qq103;obtain ⟨ad136,A136_2,c136_2,e136,hx136_0,hx136_1,hx136_2,hl136_2,hi136_2⟩:=at_T45 HR0.out x4_1 p136 q136;obtain rfl : ad135 = ad136:=(by injection e136)
              replace hx136_0:=(ct HB.out hx136_0 :)
              replace hx136_1:=(ct HB.out hx136_1 :)
              replace hx136_2:=(ct HB.out hx136_2 :)
              have HR136_2:=am hi136_2;have HC136_2:=am hl136_2;clear hi136_2 hl136_2;replace p136:=eq_true p136;replace q136:=eq_true q136;have ea_:=Option.some.inj (hx135_2.symm.trans hx136_2)
              injection ea_ with ea_ en_ ec_
              subst ea_;subst ec_;clear en_;have p137 : 0 ≤ (x5_3 : Int):=odt qq103;have q137 : x5_3 < (((rd_T45 l0 x4_1).f2).length : Int):=odt qq103;obtain ⟨ad137,e137,hx137_0⟩:=Kd.at_int HR136_2.out x5_3 p137 q137
              cases e137
              replace hx137_0:=(ct HB.out hx137_0 :)
              replace p137:=eq_true p137;replace q137:=eq_true q137;obtain ⟨Ao28,co28,eo28⟩:=Kd.R_slice HO_3.out;subst eo28;go_wp2_with (first | ((with_reducible refine gate_callee (f:=46) rfl ?_);refine goesL_ (some 80) rfl rfl Try.func46 (by kernel_rfl) rfl #[.slice Ao28 x3_3.length co28,.int .i64 (rd ((rd_T45 l0 x4_1).f2) x5_3)] rfl qq48 ?_;(with_reducible refine (spec_l14Has.calls k3 _ _ x3_3 (rd ((rd_T45 l0 x4_1).f2) x5_3) true _ ?side1 ?side2 A26.out).mono ?_);(case side1 => exact qq34);(case side2 => exact qq114);rintro e w' ⟨rfl,⟨nd,rfl⟩⟩;refine ⟨_,rfl,?_⟩))
              go_ret
              exact ⟨qq93,qq80⟩
             ·replace c27:=Bool.eq_false_iff.mpr c27;subst c27;have H1 : (if x3_3.length < 17592186044416 then (spec_AreTents.l1 k3 l0 (x3_3 ++ [rd ((rd_T45 l0 x4_1).f2) x5_3]) x4_1 (wrap64 (x5_3 + 1))) else (none)) = some r:=by rw [if_neg (show ¬ (false = true) by decide)] at H;exact H
              clear H;have H:=H1;clear H1
              by_cases c29 : x3_3.length < 17592186044416
              ·rw [if_pos c29] at H;have LMc29:=am c29;clear c29;obtain ⟨y141,hy141⟩ : ∃ y_ : List Int,y_ = (x3_3 ++ [rd ((rd_T45 l0 x4_1).f2) x5_3]):=⟨_,rfl⟩
               replace H : (spec_AreTents.l1 k3 l0 y141 x4_1 (wrap64 (x5_3 + 1))) = some r:=by first | (rw [hy141];with_reducible exact H) | (have H2_:=(Option.bind_some _ _).symm.trans H;rw [hy141];with_reducible exact H2_) | (have H2_:=(Option.bind_some _ _).symm.trans H;with_reducible exact H2_) | with_reducible exact H | (rw [hy141];exact H) | exact H
               have Ny141:=am hy141;clear hy141;have H':=am H;clear H;have p135 : 0 ≤ (x4_1 : Int):=odt qq103;have q135 : x4_1 < (l0.length : Int):=odt qq103;obtain ⟨ad135,A135_2,c135_2,e135,hx135_0,hx135_1,hx135_2,hl135_2,hi135_2⟩:=at_T45 HR0.out x4_1 p135 q135
               cases e135
               replace hx135_0:=(ct HB.out hx135_0 :)
               replace hx135_1:=(ct HB.out hx135_1 :)
               replace hx135_2:=(ct HB.out hx135_2 :)
               have HR135_2:=am hi135_2;have HC135_2:=am hl135_2;clear hi135_2 hl135_2;replace p135:=eq_true p135;replace q135:=eq_true q135;have p136 : 0 ≤ (x4_1 : Int):=odt qq103;have q136 : x4_1 < (l0.length : Int):=odt qq103;obtain ⟨ad136,A136_2,c136_2,e136,hx136_0,hx136_1,hx136_2,hl136_2,hi136_2⟩:=at_T45 HR0.out x4_1 p136 q136;obtain rfl : ad135 = ad136:=(by injection e136)
               replace hx136_0:=(ct HB.out hx136_0 :)
               replace hx136_1:=(ct HB.out hx136_1 :)
               replace hx136_2:=(ct HB.out hx136_2 :)
               have HR136_2:=am hi136_2;have HC136_2:=am hl136_2;clear hi136_2 hl136_2;replace p136:=eq_true p136;replace q136:=eq_true q136;have ea_:=Option.some.inj (hx135_2.symm.trans hx136_2)
               injection ea_ with ea_ en_ ec_
               subst ea_;subst ec_;clear en_;have p137 : 0 ≤ (x5_3 : Int):=odt qq103;have q137 : x5_3 < (((rd_T45 l0 x4_1).f2).length : Int):=odt qq103;obtain ⟨ad137,e137,hx137_0⟩:=Kd.at_int HR136_2.out x5_3 p137 q137
               cases e137
               replace hx137_0:=(ct HB.out hx137_0 :)
               replace p137:=eq_true p137;replace q137:=eq_true q137;obtain ⟨Ao30,co30,eo30⟩:=Kd.R_slice HO_3.out;subst eo30;go_wp2_with (first | ((with_reducible refine gate_callee (f:=46) rfl ?_);refine goesL_ (some 80) rfl rfl Try.func46 (by kernel_rfl) rfl #[.slice Ao30 x3_3.length co30,.int .i64 (rd ((rd_T45 l0 x4_1).f2) x5_3)] rfl qq48 ?_;(with_reducible refine (spec_l14Has.calls k3 _ _ x3_3 (rd ((rd_T45 l0 x4_1).f2) x5_3) false _ ?side1 ?side2 A26.out).mono ?_);(case side1 => exact qq34);(case side2 => exact qq114);rintro e w' ⟨rfl,⟨nd,rfl⟩⟩;refine ⟨_,rfl,?_⟩;have p139 : 0 ≤ (x4_1 : Int):=odt qq103;have q139 : x4_1 < (l0.length : Int):=odt qq103;obtain ⟨ad139,A139_2,c139_2,e139,hx139_0,hx139_1,hx139_2,hl139_2,hi139_2⟩:=at_T45 HR0.out x4_1 p139 q139;obtain rfl : ad135 = ad139:=(by injection e139);replace hx139_0:=(ct HB.out hx139_0 :);replace hx139_1:=(ct HB.out hx139_1 :);replace hx139_2:=(ct HB.out hx139_2 :);have HR139_2:=am hi139_2;have HC139_2:=am hl139_2;clear hi139_2 hl139_2;replace p139:=eq_true p139;replace q139:=eq_true q139;have ea_:=Option.some.inj (hx135_2.symm.trans hx139_2);injection ea_ with ea_ en_ ec_;subst ea_;subst ec_;clear en_;have p140 : 0 ≤ (x5_3 : Int):=odt qq103;have q140 : x5_3 < (((rd_T45 l0 x4_1).f2).length : Int):=odt qq103;obtain ⟨ad140,e140,hx140_0⟩:=Kd.at_int HR139_2.out x5_3 p140 q140;cases e140;replace hx140_0:=(ct HB.out hx140_0 :);replace p140:=eq_true p140;replace q140:=eq_true q140) | ((with_reducible refine gate_builtin (b:=.append) (xs:=#[.tmp 81,.tmp 90]) rfl ?_);(try (refine gate_guard (by rfl) ?_;dsimp only));at_builtin;refine Kd.R_append (Kd.int .i64) (w0:=w) w.heap.size rfl (.tmp 81) (.tmp 90) 43 3 (.int .i64 0) 8 rfl Try.underlying43 info3 rfl (by decide) (by omega) (.slice Ao30 x3_3.length co30) x3_3 (rd ((rd_T45 l0 x4_1).f2) x5_3) [.int .i64 (rd ((rd_T45 l0 x4_1).f2) x5_3)] (fun _ => True) (fun _ => False) rfl rfl ?aP (fun _ hk => hk.elim) ?aF ?aO ?aB ?aS ?aL ?_;(case aP => exact rfl);(case aB => exact qq74);(case aF => exact qq116);(case aO => exact qq95);(case aS => exact qq66);(case aL => have:=LMc29.out;omega);intro v142 w31 ho hb hg hat;rw [← Ny141.out] at ho;replace HB:=am (hb);have HO143:=am (ho);clear HO_3;clear ho hb hg hat))
               go_roundg k3
               case measure => have:=HK1.out;have:=HJ4.out;have:=HK3.out;omega
               case rel => exact ⟨(y141),(wrap64 (x5_3 + 1)),qq105,H',⟨by have:=HK1.out;have:=HJ4.out;have:=HK3.out;omega⟩,⟨by (with_reducible repeat (first | apply kA | apply kN | apply kD));exact HO143.out⟩,⟨qq80⟩⟩
              ·rw [if_neg c29] at H;exact absurd H (by simp)
            ·rw [if_neg c25] at H;exact absurd H (by simp)
           ·rw [if_neg c24] at H;have c24b0 : decide (x5_3 < (((rd_T45 l0 x4_1).f2).length : Int)) = false:=decide_eq_false c24;clear c24;have H':=am H;clear H;have p135 : 0 ≤ (x4_1 : Int):=odt qq103;have q135 : x4_1 < (l0.length : Int):=odt qq103;obtain ⟨ad135,A135_2,c135_2,e135,hx135_0,hx135_1,hx135_2,hl135_2,hi135_2⟩:=at_T45 HR0.out x4_1 p135 q135
            cases e135
            replace hx135_0:=(ct HB.out hx135_0 :)
            replace hx135_1:=(ct HB.out hx135_1 :)
            replace hx135_2:=(ct HB.out hx135_2 :)
            have HR135_2:=am hi135_2;have HC135_2:=am hl135_2;clear hi135_2 hl135_2;replace p135:=eq_true p135;replace q135:=eq_true q135;go_wp2
            go_roundg k3
            case measure => have:=HK1.out;have:=HJ4.out;have:=HK3.out;omega
            case rel => exact ⟨(x3_3),(wrap64 (x4_1 + 1)),qq105,H',⟨by have:=HK1.out;have:=HJ4.out;have:=HK3.out;omega⟩,⟨qq99⟩,⟨qq80⟩⟩
          ·rw [if_neg c23] at H;exact absurd H (by simp)
         ·rw [if_neg c22] at H;exact absurd H (by simp)
   ·rw [if_neg c4] at H;have c4b0 : decide (x4_1 < (l0.length : Int)) = false:=decide_eq_false c4;clear c4;obtain rfl:=Option.some.inj H;go_wp2
    go_ret
    exact ⟨qq93,qq80⟩

end Go.Proofs.Ytnghncedinngoaa.PFnExactMoveTo
