/- Contracts of functions that the law FnExactPutUp reaches, for its row: lines that the kit's printer wrote for this claim, set shorter by a program of this session (own.py), and what fell in Lean proved anew. Lean checks them. -/
import Derived.Test.YtnghncedinngoaaSFnExactPutUpx0
import Derived.Test.YtnghncedinngoaaSFnExactPutUpx3
namespace Go.Proofs.Ytnghncedinngoaa.PFnExactPutUp
open Go.RowKit Go.Proofs.YtnghncedinngoaaW.PrintWords Go.Proofs.YtnghncedinngoaaW.PrintLast Go.Proofs.YtnghncedinngoaaW.PrintMore
attribute [local go_sem] max2_int min2_int max_two min_two max_three min_three max_four min_four   -- for this text's walks alone
set_option linter.unusedVariables false
set_option linter.unusedSimpArgs false

abbrev m0_4 : Array Bool := #[Z,Z,Z,Z,Z,Z,Z,Z,Z,Z,Z,Z,Z,Z,Z,Z,Z,Z,Z,Z,Z,Z,Z,Z,Z,Z,Z,Z,Z,Z,Z,Z,Z,Z,Z,Z,Z,Z,Z,Z,Z,Z,Z,Z,Z,Z,Z,Z]
abbrev m1_4 : Array Bool := #[Y,Z,Z,Z,Z,Z,Z,Z,Z,Z,Z,Z,Z,Z,Z,Z,Z,Z,Z,Z,Z,Z,Z,Z,Z,Z,Z,Z,Z,Z,Z,Z,Z,Z,Z,Z,Z,Z,Z,Z,Z,Z,Z,Z,Z,Z,Z,Z]
abbrev m2_4 : Array Bool := #[Y,Y,Z,Z,Z,Z,Z,Z,Z,Z,Z,Z,Z,Z,Z,Z,Z,Z,Z,Z,Z,Z,Z,Z,Z,Z,Z,Z,Z,Z,Z,Z,Z,Z,Z,Z,Z,Z,Z,Z,Z,Z,Z,Z,Z,Z,Z,Z]
abbrev m3_4 : Array Bool := #[Y,Y,Y,Z,Z,Z,Z,Z,Z,Z,Z,Z,Z,Z,Z,Z,Z,Z,Z,Z,Z,Z,Z,Z,Z,Z,Z,Z,Z,Z,Z,Z,Z,Z,Z,Z,Z,Z,Z,Z,Z,Z,Z,Z,Z,Z,Z,Z]
abbrev m4_4 : Array Bool := #[Y,Y,Y,Y,Z,Z,Z,Z,Z,Z,Z,Z,Z,Z,Z,Z,Z,Z,Z,Z,Z,Z,Z,Z,Z,Z,Z,Z,Z,Z,Z,Z,Z,Z,Z,Z,Z,Z,Z,Z,Z,Z,Z,Z,Z,Z,Z,Z]
abbrev m5_4 : Array Bool := #[Y,Y,Y,Y,Y,Z,Z,Z,Z,Z,Z,Z,Z,Z,Z,Z,Z,Z,Z,Z,Z,Z,Z,Z,Z,Z,Z,Z,Z,Z,Z,Z,Z,Z,Z,Z,Z,Z,Z,Z,Z,Z,Z,Z,Z,Z,Z,Z]
abbrev m6_4 : Array Bool := #[Y,Y,Y,Y,Y,Y,Z,Z,Z,Z,Z,Z,Z,Z,Z,Z,Z,Z,Z,Z,Z,Z,Z,Z,Z,Z,Z,Z,Z,Z,Z,Z,Z,Z,Z,Z,Z,Z,Z,Z,Z,Z,Z,Z,Z,Z,Z,Z]
abbrev m7_4 : Array Bool := #[Y,Y,Y,Y,Y,Y,Y,Z,Z,Z,Z,Z,Z,Z,Z,Z,Z,Z,Z,Z,Z,Z,Z,Z,Z,Z,Z,Z,Z,Z,Z,Z,Z,Z,Z,Z,Z,Z,Z,Z,Z,Z,Z,Z,Z,Z,Z,Z]
abbrev m8_4 : Array Bool := #[Y,Y,Y,Y,Y,Y,Y,Y,Z,Z,Z,Z,Z,Z,Z,Z,Z,Z,Z,Z,Z,Z,Z,Z,Z,Z,Z,Z,Z,Z,Z,Z,Z,Z,Z,Z,Z,Z,Z,Z,Z,Z,Z,Z,Z,Z,Z,Z]
abbrev m9_4 : Array Bool := #[Y,Y,Y,Y,Y,Y,Y,Y,Y,Z,Z,Z,Z,Z,Z,Z,Z,Z,Z,Z,Z,Z,Z,Z,Z,Z,Z,Z,Z,Z,Z,Z,Z,Z,Z,Z,Z,Z,Z,Z,Z,Z,Z,Z,Z,Z,Z,Z]
abbrev m10_4 : Array Bool := #[Y,Y,Y,Y,Y,Y,Y,Y,Y,Y,Z,Z,Z,Z,Z,Z,Z,Z,Z,Z,Z,Z,Z,Z,Z,Z,Z,Z,Z,Z,Z,Z,Z,Z,Z,Z,Z,Z,Z,Z,Z,Z,Z,Z,Z,Z,Z,Z]
abbrev m11_4 : Array Bool := #[Y,Y,Y,Y,Y,Y,Y,Y,Y,Y,Y,Z,Z,Z,Z,Z,Z,Z,Z,Z,Z,Z,Z,Z,Z,Z,Z,Z,Z,Z,Z,Z,Z,Z,Z,Z,Z,Z,Z,Z,Z,Z,Z,Z,Z,Z,Z,Z]
abbrev m12_4 : Array Bool := #[Y,Y,Y,Y,Y,Y,Y,Y,Y,Y,Y,Y,Z,Z,Z,Z,Z,Z,Z,Z,Z,Z,Z,Z,Z,Z,Z,Z,Z,Z,Z,Z,Z,Z,Z,Z,Z,Z,Z,Z,Z,Z,Z,Z,Z,Z,Z,Z]
abbrev m13_4 : Array Bool := #[Y,Y,Y,Y,Y,Y,Y,Y,Y,Y,Y,Y,Y,Z,Z,Z,Z,Z,Z,Z,Z,Z,Z,Z,Z,Z,Z,Z,Z,Z,Z,Z,Z,Z,Z,Z,Z,Z,Z,Z,Z,Z,Z,Z,Z,Z,Z,Z]
abbrev m14_4 : Array Bool := #[Y,Y,Y,Y,Y,Y,Y,Y,Y,Y,Y,Y,Y,Y,Z,Z,Z,Z,Z,Z,Z,Z,Z,Z,Z,Z,Z,Z,Z,Z,Z,Z,Z,Z,Z,Z,Z,Z,Z,Z,Z,Z,Z,Z,Z,Z,Z,Z]
abbrev m15_4 : Array Bool := #[Y,Y,Y,Y,Y,Y,Y,Y,Y,Y,Y,Y,Y,Y,Y,Z,Z,Z,Z,Z,Z,Z,Z,Z,Z,Z,Z,Z,Z,Z,Z,Z,Z,Z,Z,Z,Z,Z,Z,Z,Z,Z,Z,Z,Z,Z,Z,Z]
abbrev m16_4 : Array Bool := #[Y,Y,Y,Y,Y,Y,Y,Y,Y,Y,Y,Y,Y,Y,Y,Y,Z,Z,Z,Z,Z,Z,Z,Z,Z,Z,Z,Z,Z,Z,Z,Z,Z,Z,Z,Z,Z,Z,Z,Z,Z,Z,Z,Z,Z,Z,Z,Z]
abbrev m17_4 : Array Bool := #[Y,Y,Y,Y,Y,Y,Y,Y,Y,Y,Y,Y,Y,Y,Y,Y,Y,Z,Z,Z,Z,Z,Z,Z,Z,Z,Z,Z,Z,Z,Z,Z,Z,Z,Z,Z,Z,Z,Z,Z,Z,Z,Z,Z,Z,Z,Z,Z]
abbrev m18_4 : Array Bool := #[Y,Y,Y,Y,Y,Y,Y,Y,Y,Y,Y,Y,Y,Y,Y,Y,Y,Y,Z,Z,Z,Z,Z,Z,Z,Z,Z,Z,Z,Z,Z,Z,Z,Z,Z,Z,Z,Z,Z,Z,Z,Z,Z,Z,Z,Z,Z,Z]
abbrev m19_4 : Array Bool := #[Y,Y,Y,Y,Y,Y,Y,Y,Y,Y,Y,Y,Y,Y,Y,Y,Y,Y,Y,Z,Z,Z,Z,Z,Z,Z,Z,Z,Z,Z,Z,Z,Z,Z,Z,Z,Z,Z,Z,Z,Z,Z,Z,Z,Z,Z,Z,Z]
abbrev m20_4 : Array Bool := #[Y,Y,Y,Y,Y,Y,Y,Y,Y,Y,Y,Y,Y,Y,Y,Y,Y,Y,Y,Y,Z,Z,Z,Z,Z,Z,Z,Z,Z,Z,Z,Z,Z,Z,Z,Z,Z,Z,Z,Z,Z,Z,Z,Z,Z,Z,Z,Z]
abbrev m21_4 : Array Bool := #[Y,Y,Y,Y,Y,Y,Y,Y,Y,Y,Y,Y,Y,Y,Y,Y,Y,Y,Y,Y,Y,Z,Z,Z,Z,Z,Z,Z,Z,Z,Z,Z,Z,Z,Z,Z,Z,Z,Z,Z,Z,Z,Z,Z,Z,Z,Z,Z]
abbrev m22_4 : Array Bool := #[Y,Y,Y,Y,Y,Y,Y,Y,Y,Y,Y,Y,Y,Y,Y,Y,Y,Y,Y,Y,Y,Z,Z,Y,Z,Z,Z,Z,Z,Z,Z,Z,Z,Z,Z,Z,Z,Z,Z,Z,Z,Z,Z,Z,Z,Z,Z,Z]
abbrev m23_4 : Array Bool := #[Y,Y,Y,Y,Y,Y,Y,Y,Y,Y,Y,Y,Y,Y,Y,Y,Y,Y,Y,Y,Y,Z,Z,Y,Y,Z,Z,Z,Z,Z,Z,Z,Z,Z,Z,Z,Z,Z,Z,Z,Z,Z,Z,Z,Z,Z,Z,Z]
abbrev m24_4 : Array Bool := #[Y,Y,Y,Y,Y,Y,Y,Y,Y,Y,Y,Y,Y,Y,Y,Y,Y,Y,Y,Y,Y,Z,Z,Y,Y,Y,Z,Z,Z,Z,Z,Z,Z,Z,Z,Z,Z,Z,Z,Z,Z,Z,Z,Z,Z,Z,Z,Z]
abbrev m25_4 : Array Bool := #[Y,Y,Y,Y,Y,Y,Y,Y,Y,Y,Y,Y,Y,Y,Y,Y,Y,Y,Y,Y,Y,Z,Z,Y,Y,Y,Y,Z,Z,Z,Z,Z,Z,Z,Z,Z,Z,Z,Z,Z,Z,Z,Z,Z,Z,Z,Z,Z]
abbrev m26_4 : Array Bool := #[Y,Y,Y,Y,Y,Y,Y,Y,Y,Y,Y,Y,Y,Y,Y,Y,Y,Y,Y,Y,Y,Y,Z,Y,Y,Y,Y,Z,Z,Z,Z,Z,Z,Z,Z,Z,Z,Z,Z,Z,Z,Z,Z,Z,Z,Z,Z,Z]
abbrev m27_4 : Array Bool := #[Y,Y,Y,Y,Y,Y,Y,Y,Y,Y,Y,Y,Y,Y,Y,Y,Y,Y,Y,Y,Y,Y,Y,Y,Y,Y,Y,Z,Z,Z,Z,Z,Z,Z,Z,Z,Z,Z,Z,Z,Z,Z,Z,Z,Z,Z,Z,Z]
abbrev m28_4 : Array Bool := #[Y,Y,Y,Y,Y,Y,Y,Y,Y,Y,Y,Y,Y,Y,Y,Y,Y,Y,Y,Y,Y,Y,Y,Y,Y,Y,Y,Y,Z,Z,Z,Z,Z,Z,Z,Z,Z,Z,Z,Z,Z,Z,Z,Z,Z,Z,Z,Z]
abbrev m29_4 : Array Bool := #[Y,Y,Y,Y,Y,Y,Y,Y,Y,Y,Y,Y,Y,Y,Y,Y,Y,Y,Y,Y,Y,Y,Y,Y,Y,Y,Y,Y,Y,Z,Z,Z,Z,Z,Z,Z,Z,Z,Z,Z,Z,Z,Z,Z,Z,Z,Z,Z]
abbrev m30_4 : Array Bool := #[Y,Y,Y,Y,Y,Y,Y,Y,Y,Y,Y,Y,Y,Y,Y,Y,Y,Y,Y,Y,Y,Y,Y,Y,Y,Y,Y,Y,Y,Y,Z,Z,Z,Z,Z,Z,Z,Z,Z,Z,Z,Z,Z,Z,Z,Z,Z,Z]
abbrev m31_4 : Array Bool := #[Y,Y,Y,Y,Y,Y,Y,Y,Y,Y,Y,Y,Y,Y,Y,Y,Y,Y,Y,Y,Y,Y,Y,Y,Y,Y,Y,Y,Y,Y,Y,Z,Z,Z,Z,Z,Z,Z,Z,Z,Z,Z,Z,Z,Z,Z,Z,Z]
abbrev m32_4 : Array Bool := #[Y,Y,Y,Y,Y,Y,Y,Y,Y,Y,Y,Y,Y,Y,Y,Y,Y,Y,Y,Y,Y,Y,Y,Y,Y,Y,Y,Y,Y,Y,Y,Y,Z,Z,Z,Z,Z,Z,Z,Z,Z,Z,Z,Z,Z,Z,Z,Z]
abbrev m33_4 : Array Bool := #[Y,Y,Y,Y,Y,Y,Y,Y,Y,Y,Y,Y,Y,Y,Y,Y,Y,Y,Y,Y,Y,Y,Y,Y,Y,Y,Y,Y,Y,Y,Y,Y,Y,Z,Z,Z,Z,Z,Z,Z,Z,Z,Z,Z,Z,Z,Z,Z]
abbrev m34_4 : Array Bool := #[Y,Y,Y,Y,Y,Y,Y,Y,Y,Y,Y,Y,Y,Y,Y,Y,Y,Y,Y,Y,Y,Y,Y,Y,Y,Y,Y,Y,Y,Y,Y,Y,Y,Y,Z,Z,Z,Z,Z,Z,Z,Z,Z,Z,Z,Z,Z,Z]
abbrev m35_4 : Array Bool := #[Y,Y,Y,Y,Y,Y,Y,Y,Y,Y,Y,Y,Y,Y,Y,Y,Y,Y,Y,Y,Y,Y,Y,Y,Y,Y,Y,Y,Y,Y,Y,Y,Y,Y,Y,Z,Z,Z,Z,Z,Z,Z,Z,Z,Z,Z,Z,Z]
abbrev m36_4 : Array Bool := #[Y,Y,Y,Y,Y,Y,Y,Y,Y,Y,Y,Y,Y,Y,Y,Y,Y,Y,Y,Y,Y,Y,Y,Y,Y,Y,Y,Y,Y,Y,Y,Y,Y,Y,Y,Y,Z,Z,Z,Z,Z,Z,Z,Z,Z,Z,Z,Z]
abbrev m37_4 : Array Bool := #[Y,Y,Y,Y,Y,Y,Y,Y,Y,Y,Y,Y,Y,Y,Y,Y,Y,Y,Y,Y,Y,Y,Y,Y,Y,Y,Y,Y,Y,Y,Y,Y,Y,Y,Y,Y,Y,Z,Z,Z,Z,Z,Z,Z,Z,Z,Z,Z]
abbrev m38_4 : Array Bool := #[Y,Y,Y,Y,Y,Y,Y,Y,Y,Y,Y,Y,Y,Y,Y,Y,Y,Y,Y,Y,Y,Y,Y,Y,Y,Y,Y,Y,Y,Y,Y,Y,Y,Y,Y,Y,Y,Y,Z,Z,Z,Z,Z,Z,Z,Z,Z,Z]
abbrev m39_4 : Array Bool := #[Y,Y,Y,Y,Y,Y,Y,Y,Y,Y,Y,Y,Y,Y,Y,Y,Y,Y,Y,Y,Y,Y,Y,Y,Y,Y,Y,Y,Y,Y,Y,Y,Y,Y,Y,Y,Y,Y,Y,Z,Z,Z,Z,Z,Z,Z,Z,Z]
abbrev m40_4 : Array Bool := #[Y,Y,Y,Y,Y,Y,Y,Y,Y,Y,Y,Y,Y,Y,Y,Y,Y,Y,Y,Y,Y,Y,Y,Y,Y,Y,Y,Y,Y,Y,Y,Y,Y,Y,Y,Y,Y,Y,Y,Y,Z,Z,Z,Z,Z,Z,Z,Z]
abbrev m41_4 : Array Bool := #[Y,Y,Y,Y,Y,Y,Y,Y,Y,Y,Y,Y,Y,Y,Y,Y,Y,Y,Y,Y,Y,Y,Y,Y,Y,Y,Y,Y,Y,Y,Y,Y,Y,Y,Y,Y,Y,Y,Y,Y,Y,Z,Z,Z,Z,Z,Z,Z]
abbrev m42_4 : Array Bool := #[Y,Y,Y,Y,Y,Y,Y,Y,Y,Y,Y,Y,Y,Y,Y,Y,Y,Y,Y,Y,Y,Y,Y,Y,Y,Y,Y,Y,Y,Y,Y,Y,Y,Y,Y,Y,Y,Y,Y,Y,Y,Y,Z,Z,Z,Z,Z,Z]
abbrev m43_4 : Array Bool := #[Y,Y,Y,Y,Y,Y,Y,Y,Y,Y,Y,Y,Y,Y,Y,Y,Y,Y,Y,Y,Y,Y,Y,Y,Y,Y,Y,Y,Y,Y,Y,Y,Y,Y,Y,Y,Y,Y,Y,Y,Y,Y,Y,Z,Z,Z,Z,Z]
abbrev m44_4 : Array Bool := #[Y,Y,Y,Y,Y,Y,Y,Y,Y,Y,Y,Y,Y,Y,Y,Y,Y,Y,Y,Y,Y,Y,Y,Y,Y,Y,Y,Y,Y,Y,Y,Y,Y,Y,Y,Y,Y,Y,Y,Y,Y,Y,Y,Y,Z,Z,Z,Z]
abbrev m45_4 : Array Bool := #[Y,Y,Y,Y,Y,Y,Y,Y,Y,Y,Y,Y,Y,Y,Y,Y,Y,Y,Y,Y,Y,Y,Y,Y,Y,Y,Y,Y,Y,Y,Y,Y,Y,Y,Y,Y,Y,Y,Y,Y,Y,Y,Y,Y,Y,Z,Z,Z]
abbrev m46_4 : Array Bool := #[Y,Y,Y,Y,Y,Y,Y,Y,Y,Y,Y,Y,Y,Y,Y,Y,Y,Y,Y,Y,Y,Y,Y,Y,Y,Y,Y,Y,Y,Y,Y,Y,Y,Y,Y,Y,Y,Y,Y,Y,Y,Y,Y,Y,Y,Y,Z,Z]
abbrev m47_4 : Array Bool := #[Y,Y,Y,Y,Y,Y,Y,Y,Y,Y,Y,Y,Y,Y,Y,Y,Y,Y,Y,Y,Y,Y,Y,Y,Y,Y,Y,Y,Y,Y,Y,Y,Y,Y,Y,Y,Y,Y,Y,Y,Y,Y,Y,Y,Y,Y,Y,Z]
abbrev m48_4 : Array Bool := #[Y,Y,Y,Y,Y,Y,Y,Y,Y,Y,Y,Y,Y,Y,Y,Y,Y,Y,Y,Y,Y,Y,Y,Y,Y,Y,Y,Y,Y,Y,Y,Y,Y,Y,Y,Y,Y,Y,Y,Y,Y,Y,Y,Y,Y,Y,Y,Y]
abbrev m49_4 : Array Bool := #[Y,Y,Y,Y,Y,Y,Y,Y,Y,Y,Y,Y,Y,Y,Y,Y,Y,Y,Y,Y,Y,Y,Z,Z,Z,Z,Z,Z,Z,Z,Z,Z,Z,Z,Z,Z,Z,Z,Z,Z,Z,Z,Z,Z,Z,Z,Z,Z]
abbrev m50_4 : Array Bool := #[Y,Y,Y,Y,Y,Y,Y,Y,Y,Y,Y,Y,Y,Y,Y,Y,Y,Y,Y,Y,Y,Y,Y,Z,Z,Z,Z,Z,Z,Z,Z,Z,Z,Z,Z,Z,Z,Z,Z,Z,Z,Z,Z,Z,Z,Z,Z,Z]
abbrev m51_4 : Array Bool := #[Y,Y,Y,Y,Y,Y,Y,Y,Y,Y,Y,Y,Y,Y,Y,Y,Y,Y,Y,Y,Y,Y,Y,Y,Z,Z,Z,Z,Z,Z,Z,Z,Z,Z,Z,Z,Z,Z,Z,Z,Z,Z,Z,Z,Z,Z,Z,Z]
abbrev m52_4 : Array Bool := #[Y,Y,Y,Y,Y,Y,Y,Y,Y,Y,Y,Y,Y,Y,Y,Y,Y,Y,Y,Y,Y,Y,Y,Y,Y,Z,Z,Z,Z,Z,Z,Z,Z,Z,Z,Z,Z,Z,Z,Z,Z,Z,Z,Z,Z,Z,Z,Z]
abbrev m53_4 : Array Bool := #[Y,Y,Y,Y,Y,Y,Y,Y,Y,Y,Y,Y,Y,Y,Y,Y,Y,Y,Y,Y,Y,Y,Y,Y,Y,Y,Z,Z,Z,Z,Z,Z,Z,Z,Z,Z,Z,Z,Z,Z,Z,Z,Z,Z,Z,Z,Z,Z]
/-! ### spec_AreTents: function 28 -/
mutual
def spec_AreTents.l0 : Nat → List (S45) → List Int → Int → Option (Bool)
 | 0,_,_,_ => none
 | k + 1,x0,x3,x4 => if x4 < (x0.length : Int) then (if 0 ≤ x4 then ((spec_l1In.f ((rd_T45 x0 x4).f0) 1 99).bind fun t160 => (if t160 = true then ((spec_l1In.f ((rd_T45 x0 x4).f1) 1 6).bind fun t162 => (if t162 = true then (if (((rd_T45 x0 x4).f2).length : Int) > ((rd_T45 x0 x4).f1) then (spec_AreTents.j1 k x0 x3 x4 true) else (if x4 > 0 then (if 0 ≤ (wrap64 (x4 - 1)) then (if (wrap64 (x4 - 1)) < (x0.length : Int) then (spec_AreTents.j1 k x0 x3 x4 (decide (((rd_T45 x0 (wrap64 (x4 - 1))).f0) ≥ ((rd_T45 x0 x4).f0)))) else (none)) else (none)) else (spec_AreTents.j1 k x0 x3 x4 false))) else (spec_AreTents.j1 k x0 x3 x4 true))) else (spec_AreTents.j1 k x0 x3 x4 true))) else (none)) else (some (decide ((x0.length : Int) ≤ 8)))
def spec_AreTents.j1 : Nat → List (S45) → List Int → Int → Bool → Option (Bool)
 | 0,_,_,_,_ => none
 | k + 1,x0,x3,x4,x60 => if x60 = true then (some false) else (spec_AreTents.l1 k x0 x3 x4 0)
def spec_AreTents.l1 : Nat → List (S45) → List Int → Int → Int → Option (Bool)
 | 0,_,_,_,_ => none
 | k + 1,x0,x3,x4,x5 => if 0 ≤ x4 then (if x4 < (x0.length : Int) then (if x5 < (((rd_T45 x0 x4).f2).length : Int) then (if 0 ≤ x5 then ((spec_l14Has.f k x3 (rd ((rd_T45 x0 x4).f2) x5)).bind fun t170 => (if t170 = true then (some false) else (if x3.length < 17592186044416 then (spec_AreTents.l1 k x0 (x3 ++ [rd ((rd_T45 x0 x4).f2) x5]) x4 (wrap64 (x5 + 1))) else (none)))) else (none)) else (spec_AreTents.l0 k x0 x3 (wrap64 (x4 + 1)))) else (none)) else (none)
end
def spec_AreTents.f (k : Nat) (l0 : List (S45)) : Option (Bool) := spec_AreTents.l0 k l0 (([] : List Int)) 0
theorem spec_AreTents.mono_l : ∀ k, (∀ y0 y1 y2, LeO (spec_AreTents.l0 k y0 y1 y2) (spec_AreTents.l0 (k + 1) y0 y1 y2)) ∧ (∀ y0 y1 y2 y3, LeO (spec_AreTents.j1 k y0 y1 y2 y3) (spec_AreTents.j1 (k + 1) y0 y1 y2 y3)) ∧ (∀ y0 y1 y2 y3, LeO (spec_AreTents.l1 k y0 y1 y2 y3) (spec_AreTents.l1 (k + 1) y0 y1 y2 y3))
 | 0 => ⟨fun _ _ _ r h => by simp [spec_AreTents.l0] at h,fun _ _ _ _ r h => by simp [spec_AreTents.j1] at h,fun _ _ _ _ r h => by simp [spec_AreTents.l1] at h⟩
 | k + 1 => by
  obtain ⟨ih0,ih1,ih2⟩:=spec_AreTents.mono_l k
  refine ⟨?_,?_,?_⟩
  ·intro y0 y1 y2
   unfold spec_AreTents.l0
   repeat' first
   | (with_reducible exact ih0 _ _ _)
   | (with_reducible exact ih1 _ _ _ _)
   | (with_reducible exact ih2 _ _ _ _)
   | (with_reducible exact spec_l14Has.mono _ _ _)
   | (with_reducible exact LeO.refl _)
   | (with_reducible exact LeO.none _)
   | (with_reducible refine LeO.ite ?_ ?_)
   | (with_reducible refine LeO.bind ?_ (fun _ => ?_))
   | exact ih0 _ _ _
   | exact ih1 _ _ _ _
   | exact ih2 _ _ _ _
   | exact spec_l14Has.mono _ _ _
   | exact LeO.none _
   | refine LeO.ite ?_ ?_
   | refine LeO.bind ?_ (fun _ => ?_)
  ·intro y0 y1 y2 y3
   unfold spec_AreTents.j1
   repeat' first
   | (with_reducible exact ih0 _ _ _)
   | (with_reducible exact ih1 _ _ _ _)
   | (with_reducible exact ih2 _ _ _ _)
   | (with_reducible exact spec_l14Has.mono _ _ _)
   | (with_reducible exact LeO.refl _)
   | (with_reducible exact LeO.none _)
   | (with_reducible refine LeO.ite ?_ ?_)
   | (with_reducible refine LeO.bind ?_ (fun _ => ?_))
   | exact ih0 _ _ _
   | exact ih1 _ _ _ _
   | exact ih2 _ _ _ _
   | exact spec_l14Has.mono _ _ _
   | exact LeO.none _
   | refine LeO.ite ?_ ?_
   | refine LeO.bind ?_ (fun _ => ?_)
  ·intro y0 y1 y2 y3
   unfold spec_AreTents.l1
   repeat' first
   | (with_reducible exact ih0 _ _ _)
   | (with_reducible exact ih1 _ _ _ _)
   | (with_reducible exact ih2 _ _ _ _)
   | (with_reducible exact spec_l14Has.mono _ _ _)
   | (with_reducible exact LeO.refl _)
   | (with_reducible exact LeO.none _)
   | (with_reducible refine LeO.ite ?_ ?_)
   | (with_reducible refine LeO.bind ?_ (fun _ => ?_))
   | exact ih0 _ _ _
   | exact ih1 _ _ _ _
   | exact ih2 _ _ _ _
   | exact spec_l14Has.mono _ _ _
   | exact LeO.none _
   | refine LeO.ite ?_ ?_
   | refine LeO.bind ?_ (fun _ => ?_)
theorem spec_AreTents.mono : ∀ a0 k, LeO (spec_AreTents.f k a0) (spec_AreTents.f (k + 1) a0) := by
 intro a0 k
 obtain ⟨ih0,ih1,ih2⟩:=spec_AreTents.mono_l k
 unfold spec_AreTents.f
 repeat' first
   | (with_reducible exact ih0 _ _ _)
   | (with_reducible exact ih1 _ _ _ _)
   | (with_reducible exact ih2 _ _ _ _)
   | (with_reducible exact spec_l14Has.mono _ _ _)
   | (with_reducible exact LeO.refl _)
   | (with_reducible exact LeO.none _)
   | (with_reducible refine LeO.ite ?_ ?_)
   | (with_reducible refine LeO.bind ?_ (fun _ => ?_))
   | exact ih0 _ _ _
   | exact ih1 _ _ _ _
   | exact ih2 _ _ _ _
   | exact spec_l14Has.mono _ _ _
   | exact LeO.none _
   | refine LeO.ite ?_ ?_
   | refine LeO.bind ?_ (fun _ => ?_)
def spec_AreTents.T5 : Bool × List (List Nat × List Nat) := (true, [([], []), ([], []), ([0, 1], [0, 1]), ([2], [2]), ([3], [3]), ([4], [4]), ([5], [5]), ([6, 5], [6]), ([7], [7]), ([7], [7]), ([8, 9, 7], [7, 8, 9]), ([10, 7], [7, 10]), ([11, 7], [7, 11]), ([12, 7, 7], [7, 12]), ([13, 7], [7, 13]), ([7, 14], [7, 14]), ([15, 13], [15]), ([16], [16]), ([16], [16]), ([17, 18, 16], [16, 17, 18]), ([19, 16], [16, 19]), ([20, 16], [16, 20]), ([21, 16], [16, 21]), ([16], [16]), ([16], [16]), ([23, 24, 16], [16, 23, 24]), ([25, 16], [16, 25]), ([26, 16], [16, 26]), ([22, 27, 16], [16, 22, 27]), ([16, 28], [16, 28]), ([29, 16], [29]), ([30], [30]), ([31, 30], [30, 31]), ([32, 30, 30], [30, 32]), ([33], [33]), ([33], [33]), ([35, 33], [33, 35]), ([34, 36, 33], [33, 34, 36]), ([37, 33], [33, 37]), ([38, 33], [33, 38]), ([33], [33]), ([33], [33]), ([40, 41, 33], [33, 40, 41]), ([42, 33], [33, 42]), ([43, 33], [33, 43]), ([39, 44, 33], [33, 39, 44]), ([33, 45, 30], [30, 33, 45]), ([30, 46], [30, 46])])
def spec_AreTents.B5 : List Nat := [0, 0, 3, 7, 15, 31, 63, 127, 255, 255, 1023, 2047, 4095, 8191, 16383, 32767, 65535, 131071, 131071, 524287, 1048575, 2097151, 4194303, 131071, 131071, 25296895, 58851327, 125960191, 268435455, 536870911, 1073741823, 2147483647, 4294967295, 8589934591, 17179869183, 17179869183, 51539607551, 137438953471, 274877906943, 549755813887, 17179869183, 17179869183, 3315714752511, 7713761263615, 16509854285823, 35184372088831, 70368744177663, 140737488355327]
theorem spec_AreTents.tab5 : rtab .any (opsOf Try.f28 5) = spec_AreTents.T5 := by kernel_rfl
theorem spec_AreTents.bits5 : waitsOk spec_AreTents.T5.2 spec_AreTents.B5 = true := by kernel_rfl
set_option maxHeartbeats 8000000 in
set_option maxRecDepth 100000 in
theorem spec_AreTents.calls (k : Nat) (A0 : Option Addr) (c0 : Nat) (l0 : List (S45)) (r : Bool) (w : World) (hr0 : Kd.C k45 w A0 l0.length l0) (hc0 : l0.length ≤ c0) (h : spec_AreTents.f k l0 = some r) :
  Calls Try.prog 28 #[.slice A0 l0.length c0] w fun e w' => e = .returned (.bool r) ∧ Below w.heap.size w w':=by
 have HR0:=am hr0;have HC0:=am hc0;clear hr0 hc0;have HB:=am qq130;have H : (spec_AreTents.l0 k l0 (([] : List Int)) 0) = some r:=h;clear h;obtain ⟨y156,hy156⟩ : ∃ y_ : List Int,y_ = (([] : List Int)):=⟨_,rfl⟩
 replace H : (spec_AreTents.l0 k l0 y156 0) = some r:=by first | (rw [hy156];with_reducible exact H) | (have H2_:=(Option.bind_some _ _).symm.trans H;rw [hy156];with_reducible exact H2_) | (have H2_:=(Option.bind_some _ _).symm.trans H;with_reducible exact H2_) | with_reducible exact H | (rw [hy156];exact H) | exact H
 have Ny156:=am hy156;clear hy156;have H':=am H;clear H
 go_enter Try.func28,Try.ntmps28
 go_wp2_with (first | ((with_reducible refine gate_dst (N:=6) rfl ?_);(try (refine gate_guard (by rfl) ?_;dsimp only));refine Kd.R_lit (Kd.int .i64) _ 3 ?hg (N:=6) ?hd (xs:=([] : List Int)) (inner:=[]) (ok:=fun _ => True) (okp:=fun _ => True) ?hr ?hp (fun _ hk => hk) trivial (Below.refl _ _) (Nat.le_refl _) (by simp) ?_;(case hd => rfl);(case hg => rfl);(case hr => exact qq103);(case hp => exact qq107);intro v157 w2 ho3 hb hg_ hnew_;clear hg_ hnew_;(first | rw [← Ny156.out] at ho3 | (simp only [Int.reduceToNat] at ho3;rw [← Ny156.out] at ho3));have HO158:=am (Kd.R_lower ho3 (below_size qq71));replace HB:=am qq133;clear hb ho3))
 go_loopg [3,4] k (fun kq v3 v4 w' => ∃ (x3_1 : List Int) (x4_1 : Int),v4 = .int .i64 x4_1 ∧ Aside0 (spec_AreTents.l0 kq l0 x3_1 x4_1 = some r) ∧ Aside0 (kq ≤ k) ∧ Aside0 (Kd.R (Kd.int .i64) 3 w' w.heap.size (fun _ => True) v3 x3_1) ∧ Aside0 (Below w.heap.size w w'))
 case atStart => exact ⟨(y156),(0),qq101,H',⟨Nat.le_refl _⟩,⟨by (with_reducible repeat (first | apply kA | apply kN | apply kD));exact HO158.out⟩,⟨qq71⟩⟩
 case round =>
  clear H'
  try clear c2
  try clear p2
  obtain ⟨x3_1,x4_1,rfl,HA,HK1,HO_3,HB⟩:=hrel
  cases gk with
  | zero => exact absurd HA.out (by simp [spec_AreTents.l0])
  | succ k1 =>
   have H:=HA.out;clear HA;simp only [spec_AreTents.l0] at H
   by_cases c4 : x4_1 < (l0.length : Int)
   ·rw [if_pos c4] at H;have c4b0 : decide (x4_1 < (l0.length : Int)) = true:=decide_eq_true c4;clear c4;have HC5:=am H;clear H
    go_upto_region 5 with (fail)
    go_cut [60] (fun v60 wc => ∃ (kq : Nat) (x60_4 : Bool),v60 = .bool x60_4 ∧ Aside0 (spec_AreTents.j1 kq l0 x3_1 x4_1 x60_4 = some r) ∧ Aside0 (kq ≤ k1) ∧ Aside0 (Kd.R (Kd.int .i64) 3 wc w.heap.size (fun _ => True) u3 x3_1) ∧ Aside0 (Below w.heap.size w wc))
    case first =>
     have H:=HC5.out;clear HC5
     by_cases c6 : 0 ≤ x4_1
     ·rw [if_pos c6] at H;have c6b0 : decide (0 ≤ x4_1) = true:=decide_eq_true c6;clear c6;(first | rw [c6b0] | (simp only [i64_w,i32_w];rw [c6b0]) | skip);replace H:=bS.mp H;obtain ⟨t160,A70,H⟩:=H;replace H : (if t160 = true then ((spec_l1In.f ((rd_T45 l0 x4_1).f1) 1 6).bind fun t162 => (if t162 = true then (if (((rd_T45 l0 x4_1).f2).length : Int) > ((rd_T45 l0 x4_1).f1) then (spec_AreTents.j1 k1 l0 x3_1 x4_1 true) else (if x4_1 > 0 then (if 0 ≤ (wrap64 (x4_1 - 1)) then (if (wrap64 (x4_1 - 1)) < (l0.length : Int) then (spec_AreTents.j1 k1 l0 x3_1 x4_1 (decide (((rd_T45 l0 (wrap64 (x4_1 - 1))).f0) ≥ ((rd_T45 l0 x4_1).f0)))) else (none)) else (none)) else (spec_AreTents.j1 k1 l0 x3_1 x4_1 false))) else (spec_AreTents.j1 k1 l0 x3_1 x4_1 true))) else (spec_AreTents.j1 k1 l0 x3_1 x4_1 true)) = some r:=H;have A7:=am A70;clear A70
      by_cases c8 : t160 = true
      ·subst c8;have H1 : ((spec_l1In.f ((rd_T45 l0 x4_1).f1) 1 6).bind fun t162 => (if t162 = true then (if (((rd_T45 l0 x4_1).f2).length : Int) > ((rd_T45 l0 x4_1).f1) then (spec_AreTents.j1 k1 l0 x3_1 x4_1 true) else (if x4_1 > 0 then (if 0 ≤ (wrap64 (x4_1 - 1)) then (if (wrap64 (x4_1 - 1)) < (l0.length : Int) then (spec_AreTents.j1 k1 l0 x3_1 x4_1 (decide (((rd_T45 l0 (wrap64 (x4_1 - 1))).f0) ≥ ((rd_T45 l0 x4_1).f0)))) else (none)) else (none)) else (spec_AreTents.j1 k1 l0 x3_1 x4_1 false))) else (spec_AreTents.j1 k1 l0 x3_1 x4_1 true))) = some r:=by rw [if_pos rfl] at H;exact H
       clear H;have H:=H1;clear H1;replace H:=bS.mp H;obtain ⟨t162,A90,H⟩:=H;replace H : (if t162 = true then (if (((rd_T45 l0 x4_1).f2).length : Int) > ((rd_T45 l0 x4_1).f1) then (spec_AreTents.j1 k1 l0 x3_1 x4_1 true) else (if x4_1 > 0 then (if 0 ≤ (wrap64 (x4_1 - 1)) then (if (wrap64 (x4_1 - 1)) < (l0.length : Int) then (spec_AreTents.j1 k1 l0 x3_1 x4_1 (decide (((rd_T45 l0 (wrap64 (x4_1 - 1))).f0) ≥ ((rd_T45 l0 x4_1).f0)))) else (none)) else (none)) else (spec_AreTents.j1 k1 l0 x3_1 x4_1 false))) else (spec_AreTents.j1 k1 l0 x3_1 x4_1 true)) = some r:=H;have A9:=am A90;clear A90
       by_cases c10 : t162 = true
       ·subst c10;have H1 : (if (((rd_T45 l0 x4_1).f2).length : Int) > ((rd_T45 l0 x4_1).f1) then (spec_AreTents.j1 k1 l0 x3_1 x4_1 true) else (if x4_1 > 0 then (if 0 ≤ (wrap64 (x4_1 - 1)) then (if (wrap64 (x4_1 - 1)) < (l0.length : Int) then (spec_AreTents.j1 k1 l0 x3_1 x4_1 (decide (((rd_T45 l0 (wrap64 (x4_1 - 1))).f0) ≥ ((rd_T45 l0 x4_1).f0)))) else (none)) else (none)) else (spec_AreTents.j1 k1 l0 x3_1 x4_1 false))) = some r:=by rw [if_pos rfl] at H;exact H
        clear H;have H:=H1;clear H1
        by_cases c11 : (((rd_T45 l0 x4_1).f2).length : Int) > ((rd_T45 l0 x4_1).f1)
        ·rw [if_pos c11] at H;have c11b0 : decide (((rd_T45 l0 x4_1).f1) < (((rd_T45 l0 x4_1).f2).length : Int)) = true:=decide_eq_true c11;clear c11;have H':=am H;clear H
         try go_wp2
         replace HO_3:=am qq135;replace HB:=am qq134;have p159 : 0 ≤ (x4_1 : Int):=odt qq100;have q159 : x4_1 < (l0.length : Int):=odt qq100;obtain ⟨ad159,A159_2,c159_2,e159,hx159_0,hx159_1,hx159_2,hl159_2,hi159_2⟩:=at_T45 HR0.out x4_1 p159 q159;have hw159_2:=hx159_2;have hw159_1:=hx159_1;have hw159_0:=hx159_0
         cases e159
         replace hx159_0:=(ct HB.out hx159_0 :)
         replace hx159_1:=(ct HB.out hx159_1 :)
         replace hx159_2:=(ct HB.out hx159_2 :)
         have HR159_2:=am hi159_2;have HC159_2:=am hl159_2;clear hi159_2 hl159_2;replace p159:=eq_true p159;replace q159:=eq_true q159;have p161 : 0 ≤ (x4_1 : Int):=odt qq100;have q161 : x4_1 < (l0.length : Int):=odt qq100;obtain ⟨ad161,A161_2,c161_2,e161,hx161_0,hx161_1,hx161_2,hl161_2,hi161_2⟩:=at_T45 HR0.out x4_1 p161 q161;have hw161_2:=hx161_2;have hw161_1:=hx161_1;have hw161_0:=hx161_0;obtain rfl : ad159 = ad161:=(by injection e161)
         replace hx161_0:=(ct HB.out hx161_0 :)
         replace hx161_1:=(ct HB.out hx161_1 :)
         replace hx161_2:=(ct HB.out hx161_2 :)
         have HR161_2:=am hi161_2;have HC161_2:=am hl161_2;clear hi161_2 hl161_2;replace p161:=eq_true p161;replace q161:=eq_true q161;have ea_:=Option.some.inj (hx159_2.symm.trans hx161_2)
         injection ea_ with ea_ en_ ec_
         subst ea_;subst ec_;clear en_;have p163 : 0 ≤ (x4_1 : Int):=odt qq100;have q163 : x4_1 < (l0.length : Int):=odt qq100;obtain ⟨ad163,A163_2,c163_2,e163,hx163_0,hx163_1,hx163_2,hl163_2,hi163_2⟩:=at_T45 HR0.out x4_1 p163 q163;have hw163_2:=hx163_2;have hw163_1:=hx163_1;have hw163_0:=hx163_0;obtain rfl : ad159 = ad163:=(by injection e163)
         replace hx163_0:=(ct HB.out hx163_0 :)
         replace hx163_1:=(ct HB.out hx163_1 :)
         replace hx163_2:=(ct HB.out hx163_2 :)
         have HR163_2:=am hi163_2;have HC163_2:=am hl163_2;clear hi163_2 hl163_2;replace p163:=eq_true p163;replace q163:=eq_true q163;have ea_:=Option.some.inj (hx159_2.symm.trans hx163_2)
         injection ea_ with ea_ en_ ec_
         subst ea_;subst ec_;clear en_;have p164 : 0 ≤ (x4_1 : Int):=odt qq100;have q164 : x4_1 < (l0.length : Int):=odt qq100;obtain ⟨ad164,A164_2,c164_2,e164,hx164_0,hx164_1,hx164_2,hl164_2,hi164_2⟩:=at_T45 HR0.out x4_1 p164 q164;have hw164_2:=hx164_2;have hw164_1:=hx164_1;have hw164_0:=hx164_0;obtain rfl : ad159 = ad164:=(by injection e164)
         replace hx164_0:=(ct HB.out hx164_0 :)
         replace hx164_1:=(ct HB.out hx164_1 :)
         replace hx164_2:=(ct HB.out hx164_2 :)
         have HR164_2:=am hi164_2;have HC164_2:=am hl164_2;clear hi164_2 hl164_2;replace p164:=eq_true p164;replace q164:=eq_true q164;have ea_:=Option.some.inj (hx159_2.symm.trans hx164_2)
         injection ea_ with ea_ en_ ec_
         subst ea_;subst ec_;clear en_;refine start_ (n:=48) (S:=fun w' => w'.cell? (ad159.add ((x4_1).toNat * 3)) = some (.int .i64 ((rd_T45 l0 x4_1).f0)) ∧ w'.cell? ⟨(ad159.add ((x4_1).toNat * 3)).block,(ad159.add ((x4_1).toNat * 3)).off + 1,none⟩ = some (.int .i64 ((rd_T45 l0 x4_1).f1)) ∧ w'.cell? ⟨(ad159.add ((x4_1).toNat * 3)).block,(ad159.add ((x4_1).toNat * 3)).off + 2,none⟩ = some (.slice A159_2 ((rd_T45 l0 x4_1).f2).length c159_2) ∧ w'.cell? (ad159.add ((x4_1).toNat * 3)) = some (.int .i64 ((rd_T45 l0 x4_1).f0)) ∧ w'.cell? ⟨(ad159.add ((x4_1).toNat * 3)).block,(ad159.add ((x4_1).toNat * 3)).off + 1,none⟩ = some (.int .i64 ((rd_T45 l0 x4_1).f1)) ∧ w'.cell? ⟨(ad159.add ((x4_1).toNat * 3)).block,(ad159.add ((x4_1).toNat * 3)).off + 2,none⟩ = some (.slice A159_2 ((rd_T45 l0 x4_1).f2).length c159_2) ∧ w'.cell? (ad159.add ((x4_1).toNat * 3)) = some (.int .i64 ((rd_T45 l0 x4_1).f0)) ∧ w'.cell? ⟨(ad159.add ((x4_1).toNat * 3)).block,(ad159.add ((x4_1).toNat * 3)).off + 1,none⟩ = some (.int .i64 ((rd_T45 l0 x4_1).f1)) ∧ w'.cell? ⟨(ad159.add ((x4_1).toNat * 3)).block,(ad159.add ((x4_1).toNat * 3)).off + 2,none⟩ = some (.slice A159_2 ((rd_T45 l0 x4_1).f2).length c159_2) ∧ w'.cell? (ad159.add ((x4_1).toNat * 3)) = some (.int .i64 ((rd_T45 l0 x4_1).f0)) ∧ w'.cell? ⟨(ad159.add ((x4_1).toNat * 3)).block,(ad159.add ((x4_1).toNat * 3)).off + 1,none⟩ = some (.int .i64 ((rd_T45 l0 x4_1).f1)) ∧ w'.cell? ⟨(ad159.add ((x4_1).toNat * 3)).block,(ad159.add ((x4_1).toNat * 3)).off + 2,none⟩ = some (.slice A159_2 ((rd_T45 l0 x4_1).f2).length c159_2)) (ds:=[]) m0_4 (by kernel_rfl) rfl rfl ⟨(ct HB.out hw159_0 :),(ct HB.out hw159_1 :),(ct HB.out hw159_2 :),(ct HB.out hw161_0 :),(ct HB.out hw161_1 :),(ct HB.out hw161_2 :),(ct HB.out hw163_0 :),(ct HB.out hw163_1 :),(ct HB.out hw163_2 :),(ct HB.out hw164_0 :),(ct HB.out hw164_1 :),(ct HB.out hw164_2 :)⟩ (fun hHeld => ?_);refine with_tabW spec_AreTents.tab5 spec_AreTents.bits5 (fun HT_ HW_ => ?_)
         generalize wr.drew = w12 at HO_3 HB HR159_2 HR161_2 HR163_2 HR164_2 hx159_0 hx159_1 hx159_2 hx161_0 hx161_1 hx161_2 hx163_0 hx163_1 hx163_2 hx164_0 hx164_1 hx164_2 hHeld ⊢
         refine pV (i:=0) (N:=some 13) m1_4 rfl rfl qT ?_
         refine pV (i:=1) (N:=some 14) m2_4 rfl rfl qT ?_
         refine pV (i:=2) (N:=some 15) m3_4 rfl rfl qT ?_
         refine pV (i:=3) (N:=some 16) m4_4 rfl rfl qT ?_
         refine take_ (i:=4) (N:=some 17) (v:=?_) (a':=?_) m5_4 rfl rfl (take_ofW HT_.out HW_.out (by kernel_rfl)) (fun _ _ _ h => h) (Or.inl ⟨by rfl,?_⟩) hHeld ?_ ?_;rotate_left
         ·rintro w' ⟨s0,s1,s2,s3,s4,s5,s6,s7,s8,s9,s10,s11⟩
          go_simp;with_reducible rfl
         rotate_left
         ·simp only [Act.put,sA,s0,s1,i64_w,i32_w];rfl
         refine one_ (i:=5) (N:=some 18) m6_4 rfl rfl (one_of HT_.out (by kernel_rfl)) (by decide) (fun K hK => ?_);refine goes_ Try.func47 (by kernel_rfl) rfl #[.int .i64 ((rd_T45 l0 x4_1).f0),.int .i64 1,.int .i64 99] (by rfl) rfl rfl qq60 ?_;with_reducible refine (spec_l1In.calls ((rd_T45 l0 x4_1).f0) 1 99 true _ A7.out).mono ?_
         rintro e w' ⟨rfl,⟨nd,rfl⟩⟩
         refine ⟨_,rfl,?_⟩;refine hK.out _ _ ⟨(ct HB.out hw159_0 :),(ct HB.out hw159_1 :),(ct HB.out hw159_2 :),(ct HB.out hw161_0 :),(ct HB.out hw161_1 :),(ct HB.out hw161_2 :),(ct HB.out hw163_0 :),(ct HB.out hw163_1 :),(ct HB.out hw163_2 :),(ct HB.out hw164_0 :),(ct HB.out hw164_1 :),(ct HB.out hw164_2 :)⟩ (fun hHeld => ?_);clear hK K;refine norm_ (a':=?_) ?_ ?_;rotate_left
         ·show Act.put _ (some 18) _ = _
          simp only [Act.put,sA,s0,s1,i64_w,i32_w];rfl
         refine pV (i:=6) (N:=some 19) m7_4 rfl rfl qT ?_
         refine pV (i:=7) (N:=some 20) m8_4 rfl rfl qT ?_
         refine pV (i:=8) (N:=some 21) m9_4 rfl rfl qT ?_
         refine pV (i:=9) (N:=some 22) m10_4 rfl rfl qT ?_
         refine pV (i:=10) (N:=some 23) m11_4 rfl rfl qT ?_
         refine pV (i:=11) (N:=some 24) m12_4 rfl rfl qT ?_
         refine take_ (i:=12) (N:=some 25) (v:=?_) (a':=?_) m13_4 rfl rfl (take_ofW HT_.out HW_.out (by kernel_rfl)) (fun _ _ _ h => h) (Or.inl ⟨by rfl,?_⟩) hHeld ?_ ?_;rotate_left
         ·rintro w' ⟨s0,s1,s2,s3,s4,s5,s6,s7,s8,s9,s10,s11⟩
          go_simp;with_reducible rfl
         rotate_left
         ·simp only [Act.put,sA,s0,s1,i64_w,i32_w];rfl
         refine one_ (i:=13) (N:=some 26) m14_4 rfl rfl (one_of HT_.out (by kernel_rfl)) (by decide) (fun K hK => ?_);refine goes_ Try.func47 (by kernel_rfl) rfl #[.int .i64 ((rd_T45 l0 x4_1).f1),.int .i64 1,.int .i64 6] (by rfl) rfl rfl qq60 ?_;with_reducible refine (spec_l1In.calls ((rd_T45 l0 x4_1).f1) 1 6 true _ A9.out).mono ?_
         rintro e w' ⟨rfl,⟨nd,rfl⟩⟩
         refine ⟨_,rfl,?_⟩;refine hK.out _ _ ⟨(ct HB.out hw159_0 :),(ct HB.out hw159_1 :),(ct HB.out hw159_2 :),(ct HB.out hw161_0 :),(ct HB.out hw161_1 :),(ct HB.out hw161_2 :),(ct HB.out hw163_0 :),(ct HB.out hw163_1 :),(ct HB.out hw163_2 :),(ct HB.out hw164_0 :),(ct HB.out hw164_1 :),(ct HB.out hw164_2 :)⟩ (fun hHeld => ?_);clear hK K;refine norm_ (a':=?_) ?_ ?_;rotate_left
         ·show Act.put _ (some 26) _ = _
          simp only [Act.put,sA,s0,s1,i64_w,i32_w];rfl
         refine pV (i:=14) (N:=some 27) m15_4 rfl rfl qT ?_
         refine pV (i:=15) (N:=some 28) m16_4 rfl rfl qT ?_
         refine pV (i:=16) (N:=some 29) m17_4 rfl rfl qT ?_
         refine pV (i:=17) (N:=some 30) m18_4 rfl rfl qT ?_
         refine pV (i:=18) (N:=some 31) m19_4 rfl rfl qT ?_
         refine pV (i:=19) (N:=some 32) m20_4 rfl rfl qT ?_
         refine pV (i:=20) (N:=some 33) m21_4 rfl rfl qT ?_
         refine pV (i:=23) (N:=some 36) m22_4 rfl rfl qT ?_
         refine pV (i:=24) (N:=some 37) m23_4 rfl rfl qT ?_
         refine pV (i:=25) (N:=some 38) m24_4 rfl rfl qT ?_
         refine pV (i:=26) (N:=some 39) m25_4 rfl rfl qT ?_
         refine take_ (i:=21) (N:=some 34) (v:=?_) (a':=?_) m26_4 rfl rfl (take_ofW HT_.out HW_.out (by kernel_rfl)) (fun _ _ _ h => h) (Or.inl ⟨by rfl,?_⟩) hHeld ?_ ?_;rotate_left
         ·rintro w' ⟨s0,s1,s2,s3,s4,s5,s6,s7,s8,s9,s10,s11⟩
          go_simp;with_reducible rfl
         rotate_left
         ·simp only [Act.put,sA,s0,s1,i64_w,i32_w];rfl
         refine pV (i:=22) (N:=some 35) m27_4 rfl rfl qT ?_
         refine take_ (i:=27) (N:=some 40) (v:=?_) (a':=?_) m28_4 rfl rfl (take_ofW HT_.out HW_.out (by kernel_rfl)) (fun _ _ _ h => h) (Or.inl ⟨by rfl,?_⟩) hHeld ?_ ?_;rotate_left
         ·rintro w' ⟨s0,s1,s2,s3,s4,s5,s6,s7,s8,s9,s10,s11⟩
          go_simp;with_reducible rfl
         rotate_left
         ·simp only [Act.put,sA,s0,s1,i64_w,i32_w];rfl
         refine pV (i:=28) (N:=some 41) m29_4 rfl rfl qT ?_
         refine pV (i:=29) (N:=some 42) m30_4 rfl rfl qT ?_
         refine pV (i:=30) (N:=some 43) m31_4 rfl rfl qT ?_
         refine pW (i:=31) (N:=some 44) m32_4 rfl rfl qT ?_
         refine pW (i:=32) (N:=some 45) m33_4 rfl rfl qT ?_
         refine pW (i:=33) (N:=some 46) m34_4 rfl rfl qT ?_
         refine pW (i:=34) (N:=some 47) m35_4 rfl rfl qT ?_
         refine pW (i:=35) (N:=some 48) m36_4 rfl rfl qT ?_
         refine pW (i:=36) (N:=some 49) m37_4 rfl rfl qT ?_
         refine pW (i:=37) (N:=some 50) m38_4 rfl rfl qT ?_
         refine pW (i:=38) (N:=some 51) m39_4 rfl rfl qT ?_
         refine pW (i:=39) (N:=some 52) m40_4 rfl rfl qT ?_
         refine pW (i:=40) (N:=some 53) m41_4 rfl rfl qT ?_
         refine pW (i:=41) (N:=some 54) m42_4 rfl rfl qT ?_
         refine pW (i:=42) (N:=some 55) m43_4 rfl rfl qT ?_
         refine pW (i:=43) (N:=some 56) m44_4 rfl rfl qT ?_
         refine pW (i:=44) (N:=some 57) m45_4 rfl rfl qT ?_
         refine pW (i:=45) (N:=some 58) m46_4 rfl rfl qT ?_
         refine pW (i:=46) (N:=some 59) m47_4 rfl rfl qT ?_
         refine pV (i:=47) (N:=some 60) m48_4 rfl rfl qT ?_
         refine done_ (done_of HT_.out (by kernel_rfl)) ?_
         try go_wp2
         go_meet
         case rel => exact ⟨_,(true),qq101,H',⟨qq99⟩,⟨qq91⟩,⟨qq71⟩⟩
        ·rw [if_neg c11] at H;have c11b0 : decide (((rd_T45 l0 x4_1).f1) < (((rd_T45 l0 x4_1).f2).length : Int)) = false:=decide_eq_false c11;clear c11
         by_cases c13 : x4_1 > 0
         ·rw [if_pos c13] at H;have c13b0 : decide (0 < x4_1) = true:=decide_eq_true c13;clear c13;obtain ⟨ji14,hji14⟩ : ∃ j_ : Int,(wrap64 (x4_1 - 1)) = j_:=⟨_,rfl⟩
          replace H : (if 0 ≤ (ji14) then (if (ji14) < (l0.length : Int) then (spec_AreTents.j1 k1 l0 x3_1 x4_1 (decide (((rd_T45 l0 (ji14)).f0) ≥ ((rd_T45 l0 x4_1).f0)))) else (none)) else (none)) = some r:=by first | (rw [hji14] at H;exact H) | (simp only [hji14] at H ⊢;exact H)
          (try rw [hji14] at A7);(try rw [hji14] at A9);have hji14w : (IntKind.i64.wrap (x4_1 - 1)) = ji14:=(i64_w _).trans hji14
          by_cases c15 : 0 ≤ (ji14)
          ·rw [if_pos c15] at H;have c15b0 : decide (0 ≤ (ji14)) = true:=decide_eq_true c15;clear c15
           by_cases c16 : (ji14) < (l0.length : Int)
           ·rw [if_pos c16] at H;have c16b0 : decide ((ji14) < (l0.length : Int)) = true:=decide_eq_true c16;clear c16;have H':=am H;clear H
            try go_wp2
            replace HO_3:=am qq135;replace HB:=am qq134;have p159 : 0 ≤ (x4_1 : Int):=odt qq100;have q159 : x4_1 < (l0.length : Int):=odt qq100;obtain ⟨ad159,A159_2,c159_2,e159,hx159_0,hx159_1,hx159_2,hl159_2,hi159_2⟩:=at_T45 HR0.out x4_1 p159 q159;have hw159_2:=hx159_2;have hw159_1:=hx159_1;have hw159_0:=hx159_0
            cases e159
            replace hx159_0:=(ct HB.out hx159_0 :)
            replace hx159_1:=(ct HB.out hx159_1 :)
            replace hx159_2:=(ct HB.out hx159_2 :)
            have HR159_2:=am hi159_2;have HC159_2:=am hl159_2;clear hi159_2 hl159_2;replace p159:=eq_true p159;replace q159:=eq_true q159;have p161 : 0 ≤ (x4_1 : Int):=odt qq100;have q161 : x4_1 < (l0.length : Int):=odt qq100;obtain ⟨ad161,A161_2,c161_2,e161,hx161_0,hx161_1,hx161_2,hl161_2,hi161_2⟩:=at_T45 HR0.out x4_1 p161 q161;have hw161_2:=hx161_2;have hw161_1:=hx161_1;have hw161_0:=hx161_0;obtain rfl : ad159 = ad161:=(by injection e161)
            replace hx161_0:=(ct HB.out hx161_0 :)
            replace hx161_1:=(ct HB.out hx161_1 :)
            replace hx161_2:=(ct HB.out hx161_2 :)
            have HR161_2:=am hi161_2;have HC161_2:=am hl161_2;clear hi161_2 hl161_2;replace p161:=eq_true p161;replace q161:=eq_true q161;have ea_:=Option.some.inj (hx159_2.symm.trans hx161_2)
            injection ea_ with ea_ en_ ec_
            subst ea_;subst ec_;clear en_;have p163 : 0 ≤ (x4_1 : Int):=odt qq100;have q163 : x4_1 < (l0.length : Int):=odt qq100;obtain ⟨ad163,A163_2,c163_2,e163,hx163_0,hx163_1,hx163_2,hl163_2,hi163_2⟩:=at_T45 HR0.out x4_1 p163 q163;have hw163_2:=hx163_2;have hw163_1:=hx163_1;have hw163_0:=hx163_0;obtain rfl : ad159 = ad163:=(by injection e163)
            replace hx163_0:=(ct HB.out hx163_0 :)
            replace hx163_1:=(ct HB.out hx163_1 :)
            replace hx163_2:=(ct HB.out hx163_2 :)
            have HR163_2:=am hi163_2;have HC163_2:=am hl163_2;clear hi163_2 hl163_2;replace p163:=eq_true p163;replace q163:=eq_true q163;have ea_:=Option.some.inj (hx159_2.symm.trans hx163_2)
            injection ea_ with ea_ en_ ec_
            subst ea_;subst ec_;clear en_;have p164 : 0 ≤ (x4_1 : Int):=odt qq100;have q164 : x4_1 < (l0.length : Int):=odt qq100;obtain ⟨ad164,A164_2,c164_2,e164,hx164_0,hx164_1,hx164_2,hl164_2,hi164_2⟩:=at_T45 HR0.out x4_1 p164 q164;have hw164_2:=hx164_2;have hw164_1:=hx164_1;have hw164_0:=hx164_0;obtain rfl : ad159 = ad164:=(by injection e164)
            replace hx164_0:=(ct HB.out hx164_0 :)
            replace hx164_1:=(ct HB.out hx164_1 :)
            replace hx164_2:=(ct HB.out hx164_2 :)
            have HR164_2:=am hi164_2;have HC164_2:=am hl164_2;clear hi164_2 hl164_2;replace p164:=eq_true p164;replace q164:=eq_true q164;have ea_:=Option.some.inj (hx159_2.symm.trans hx164_2)
            injection ea_ with ea_ en_ ec_
            subst ea_;subst ec_;clear en_;have p165 : 0 ≤ ((ji14) : Int):=odt qq100;have q165 : (ji14) < (l0.length : Int):=odt qq100;obtain ⟨ad165,A165_2,c165_2,e165,hx165_0,hx165_1,hx165_2,hl165_2,hi165_2⟩:=at_T45 HR0.out (ji14) p165 q165;have hw165_2:=hx165_2;have hw165_1:=hx165_1;have hw165_0:=hx165_0;obtain rfl : ad159 = ad165:=(by injection e165)
            replace hx165_0:=(ct HB.out hx165_0 :)
            replace hx165_1:=(ct HB.out hx165_1 :)
            replace hx165_2:=(ct HB.out hx165_2 :)
            have HR165_2:=am hi165_2;have HC165_2:=am hl165_2;clear hi165_2 hl165_2;replace p165:=eq_true p165;replace q165:=eq_true q165;have p166 : 0 ≤ (x4_1 : Int):=odt qq100;have q166 : x4_1 < (l0.length : Int):=odt qq100;obtain ⟨ad166,A166_2,c166_2,e166,hx166_0,hx166_1,hx166_2,hl166_2,hi166_2⟩:=at_T45 HR0.out x4_1 p166 q166;have hw166_2:=hx166_2;have hw166_1:=hx166_1;have hw166_0:=hx166_0;obtain rfl : ad159 = ad166:=(by injection e166)
            replace hx166_0:=(ct HB.out hx166_0 :)
            replace hx166_1:=(ct HB.out hx166_1 :)
            replace hx166_2:=(ct HB.out hx166_2 :)
            have HR166_2:=am hi166_2;have HC166_2:=am hl166_2;clear hi166_2 hl166_2;replace p166:=eq_true p166;replace q166:=eq_true q166;have ea_:=Option.some.inj (hx159_2.symm.trans hx166_2)
            injection ea_ with ea_ en_ ec_
            subst ea_;subst ec_;clear en_;refine start_ (n:=48) (S:=fun w' => w'.cell? (ad159.add ((x4_1).toNat * 3)) = some (.int .i64 ((rd_T45 l0 x4_1).f0)) ∧ w'.cell? ⟨(ad159.add ((x4_1).toNat * 3)).block,(ad159.add ((x4_1).toNat * 3)).off + 1,none⟩ = some (.int .i64 ((rd_T45 l0 x4_1).f1)) ∧ w'.cell? ⟨(ad159.add ((x4_1).toNat * 3)).block,(ad159.add ((x4_1).toNat * 3)).off + 2,none⟩ = some (.slice A159_2 ((rd_T45 l0 x4_1).f2).length c159_2) ∧ w'.cell? (ad159.add ((x4_1).toNat * 3)) = some (.int .i64 ((rd_T45 l0 x4_1).f0)) ∧ w'.cell? ⟨(ad159.add ((x4_1).toNat * 3)).block,(ad159.add ((x4_1).toNat * 3)).off + 1,none⟩ = some (.int .i64 ((rd_T45 l0 x4_1).f1)) ∧ w'.cell? ⟨(ad159.add ((x4_1).toNat * 3)).block,(ad159.add ((x4_1).toNat * 3)).off + 2,none⟩ = some (.slice A159_2 ((rd_T45 l0 x4_1).f2).length c159_2) ∧ w'.cell? (ad159.add ((x4_1).toNat * 3)) = some (.int .i64 ((rd_T45 l0 x4_1).f0)) ∧ w'.cell? ⟨(ad159.add ((x4_1).toNat * 3)).block,(ad159.add ((x4_1).toNat * 3)).off + 1,none⟩ = some (.int .i64 ((rd_T45 l0 x4_1).f1)) ∧ w'.cell? ⟨(ad159.add ((x4_1).toNat * 3)).block,(ad159.add ((x4_1).toNat * 3)).off + 2,none⟩ = some (.slice A159_2 ((rd_T45 l0 x4_1).f2).length c159_2) ∧ w'.cell? (ad159.add ((x4_1).toNat * 3)) = some (.int .i64 ((rd_T45 l0 x4_1).f0)) ∧ w'.cell? ⟨(ad159.add ((x4_1).toNat * 3)).block,(ad159.add ((x4_1).toNat * 3)).off + 1,none⟩ = some (.int .i64 ((rd_T45 l0 x4_1).f1)) ∧ w'.cell? ⟨(ad159.add ((x4_1).toNat * 3)).block,(ad159.add ((x4_1).toNat * 3)).off + 2,none⟩ = some (.slice A159_2 ((rd_T45 l0 x4_1).f2).length c159_2) ∧ w'.cell? (ad159.add (((ji14)).toNat * 3)) = some (.int .i64 ((rd_T45 l0 (ji14)).f0)) ∧ w'.cell? ⟨(ad159.add (((ji14)).toNat * 3)).block,(ad159.add (((ji14)).toNat * 3)).off + 1,none⟩ = some (.int .i64 ((rd_T45 l0 (ji14)).f1)) ∧ w'.cell? ⟨(ad159.add (((ji14)).toNat * 3)).block,(ad159.add (((ji14)).toNat * 3)).off + 2,none⟩ = some (.slice A165_2 ((rd_T45 l0 (ji14)).f2).length c165_2) ∧ w'.cell? (ad159.add ((x4_1).toNat * 3)) = some (.int .i64 ((rd_T45 l0 x4_1).f0)) ∧ w'.cell? ⟨(ad159.add ((x4_1).toNat * 3)).block,(ad159.add ((x4_1).toNat * 3)).off + 1,none⟩ = some (.int .i64 ((rd_T45 l0 x4_1).f1)) ∧ w'.cell? ⟨(ad159.add ((x4_1).toNat * 3)).block,(ad159.add ((x4_1).toNat * 3)).off + 2,none⟩ = some (.slice A159_2 ((rd_T45 l0 x4_1).f2).length c159_2)) (ds:=[]) m0_4 (by kernel_rfl) rfl rfl ⟨(ct HB.out hw159_0 :),(ct HB.out hw159_1 :),(ct HB.out hw159_2 :),(ct HB.out hw161_0 :),(ct HB.out hw161_1 :),(ct HB.out hw161_2 :),(ct HB.out hw163_0 :),(ct HB.out hw163_1 :),(ct HB.out hw163_2 :),(ct HB.out hw164_0 :),(ct HB.out hw164_1 :),(ct HB.out hw164_2 :),(ct HB.out hw165_0 :),(ct HB.out hw165_1 :),(ct HB.out hw165_2 :),(ct HB.out hw166_0 :),(ct HB.out hw166_1 :),(ct HB.out hw166_2 :)⟩ (fun hHeld => ?_);refine with_tabW spec_AreTents.tab5 spec_AreTents.bits5 (fun HT_ HW_ => ?_)
            generalize wr.drew = w17 at HO_3 HB HR159_2 HR161_2 HR163_2 HR164_2 HR165_2 HR166_2 hx159_0 hx159_1 hx159_2 hx161_0 hx161_1 hx161_2 hx163_0 hx163_1 hx163_2 hx164_0 hx164_1 hx164_2 hx165_0 hx165_1 hx165_2 hx166_0 hx166_1 hx166_2 hHeld ⊢
            refine pV (i:=0) (N:=some 13) m1_4 rfl rfl qT ?_
            refine pV (i:=1) (N:=some 14) m2_4 rfl rfl qT ?_
            refine pV (i:=2) (N:=some 15) m3_4 rfl rfl qT ?_
            refine pV (i:=3) (N:=some 16) m4_4 rfl rfl qT ?_
            refine take_ (i:=4) (N:=some 17) (v:=?_) (a':=?_) m5_4 rfl rfl (take_ofW HT_.out HW_.out (by kernel_rfl)) (fun _ _ _ h => h) (Or.inl ⟨by rfl,?_⟩) hHeld ?_ ?_;rotate_left
            ·rintro w' ⟨s0,s1,s2,s3,s4,s5,s6,s7,s8,s9,s10,s11,s12,s13,s14,s15,s16,s17⟩
             go_simp;with_reducible rfl
            rotate_left
            ·simp only [Act.put,sA,s0,s1,i64_w,i32_w];rfl
            refine one_ (i:=5) (N:=some 18) m6_4 rfl rfl (one_of HT_.out (by kernel_rfl)) (by decide) (fun K hK => ?_);refine goes_ Try.func47 (by kernel_rfl) rfl #[.int .i64 ((rd_T45 l0 x4_1).f0),.int .i64 1,.int .i64 99] (by rfl) rfl rfl qq60 ?_;with_reducible refine (spec_l1In.calls ((rd_T45 l0 x4_1).f0) 1 99 true _ A7.out).mono ?_
            rintro e w' ⟨rfl,⟨nd,rfl⟩⟩
            refine ⟨_,rfl,?_⟩;refine hK.out _ _ ⟨(ct HB.out hw159_0 :),(ct HB.out hw159_1 :),(ct HB.out hw159_2 :),(ct HB.out hw161_0 :),(ct HB.out hw161_1 :),(ct HB.out hw161_2 :),(ct HB.out hw163_0 :),(ct HB.out hw163_1 :),(ct HB.out hw163_2 :),(ct HB.out hw164_0 :),(ct HB.out hw164_1 :),(ct HB.out hw164_2 :),(ct HB.out hw165_0 :),(ct HB.out hw165_1 :),(ct HB.out hw165_2 :),(ct HB.out hw166_0 :),(ct HB.out hw166_1 :),(ct HB.out hw166_2 :)⟩ (fun hHeld => ?_);clear hK K;refine norm_ (a':=?_) ?_ ?_;rotate_left
            ·show Act.put _ (some 18) _ = _
             simp only [Act.put,sA,s0,s1,i64_w,i32_w];rfl
            refine pV (i:=6) (N:=some 19) m7_4 rfl rfl qT ?_
            refine pV (i:=7) (N:=some 20) m8_4 rfl rfl qT ?_
            refine pV (i:=8) (N:=some 21) m9_4 rfl rfl qT ?_
            refine pV (i:=9) (N:=some 22) m10_4 rfl rfl qT ?_
            refine pV (i:=10) (N:=some 23) m11_4 rfl rfl qT ?_
            refine pV (i:=11) (N:=some 24) m12_4 rfl rfl qT ?_
            refine take_ (i:=12) (N:=some 25) (v:=?_) (a':=?_) m13_4 rfl rfl (take_ofW HT_.out HW_.out (by kernel_rfl)) (fun _ _ _ h => h) (Or.inl ⟨by rfl,?_⟩) hHeld ?_ ?_;rotate_left
            ·rintro w' ⟨s0,s1,s2,s3,s4,s5,s6,s7,s8,s9,s10,s11,s12,s13,s14,s15,s16,s17⟩
             go_simp;with_reducible rfl
            rotate_left
            ·simp only [Act.put,sA,s0,s1,i64_w,i32_w];rfl
            refine one_ (i:=13) (N:=some 26) m14_4 rfl rfl (one_of HT_.out (by kernel_rfl)) (by decide) (fun K hK => ?_);refine goes_ Try.func47 (by kernel_rfl) rfl #[.int .i64 ((rd_T45 l0 x4_1).f1),.int .i64 1,.int .i64 6] (by rfl) rfl rfl qq60 ?_;with_reducible refine (spec_l1In.calls ((rd_T45 l0 x4_1).f1) 1 6 true _ A9.out).mono ?_
            rintro e w' ⟨rfl,⟨nd,rfl⟩⟩
            refine ⟨_,rfl,?_⟩;refine hK.out _ _ ⟨(ct HB.out hw159_0 :),(ct HB.out hw159_1 :),(ct HB.out hw159_2 :),(ct HB.out hw161_0 :),(ct HB.out hw161_1 :),(ct HB.out hw161_2 :),(ct HB.out hw163_0 :),(ct HB.out hw163_1 :),(ct HB.out hw163_2 :),(ct HB.out hw164_0 :),(ct HB.out hw164_1 :),(ct HB.out hw164_2 :),(ct HB.out hw165_0 :),(ct HB.out hw165_1 :),(ct HB.out hw165_2 :),(ct HB.out hw166_0 :),(ct HB.out hw166_1 :),(ct HB.out hw166_2 :)⟩ (fun hHeld => ?_);clear hK K;refine norm_ (a':=?_) ?_ ?_;rotate_left
            ·show Act.put _ (some 26) _ = _
             simp only [Act.put,sA,s0,s1,i64_w,i32_w];rfl
            refine pV (i:=14) (N:=some 27) m15_4 rfl rfl qT ?_
            refine pV (i:=15) (N:=some 28) m16_4 rfl rfl qT ?_
            refine pV (i:=16) (N:=some 29) m17_4 rfl rfl qT ?_
            refine pV (i:=17) (N:=some 30) m18_4 rfl rfl qT ?_
            refine pV (i:=18) (N:=some 31) m19_4 rfl rfl qT ?_
            refine pV (i:=19) (N:=some 32) m20_4 rfl rfl qT ?_
            refine pV (i:=20) (N:=some 33) m21_4 rfl rfl qT ?_
            refine pV (i:=23) (N:=some 36) m22_4 rfl rfl qT ?_
            refine pV (i:=24) (N:=some 37) m23_4 rfl rfl qT ?_
            refine pV (i:=25) (N:=some 38) m24_4 rfl rfl qT ?_
            refine pV (i:=26) (N:=some 39) m25_4 rfl rfl qT ?_
            refine take_ (i:=21) (N:=some 34) (v:=?_) (a':=?_) m26_4 rfl rfl (take_ofW HT_.out HW_.out (by kernel_rfl)) (fun _ _ _ h => h) (Or.inl ⟨by rfl,?_⟩) hHeld ?_ ?_;rotate_left
            ·rintro w' ⟨s0,s1,s2,s3,s4,s5,s6,s7,s8,s9,s10,s11,s12,s13,s14,s15,s16,s17⟩
             go_simp;with_reducible rfl
            rotate_left
            ·simp only [Act.put,sA,s0,s1,i64_w,i32_w];rfl
            refine pV (i:=22) (N:=some 35) m27_4 rfl rfl qT ?_
            refine take_ (i:=27) (N:=some 40) (v:=?_) (a':=?_) m28_4 rfl rfl (take_ofW HT_.out HW_.out (by kernel_rfl)) (fun _ _ _ h => h) (Or.inl ⟨by rfl,?_⟩) hHeld ?_ ?_;rotate_left
            ·rintro w' ⟨s0,s1,s2,s3,s4,s5,s6,s7,s8,s9,s10,s11,s12,s13,s14,s15,s16,s17⟩
             go_simp;with_reducible rfl
            rotate_left
            ·simp only [Act.put,sA,s0,s1,i64_w,i32_w];rfl
            refine pV (i:=28) (N:=some 41) m29_4 rfl rfl qT ?_
            refine pV (i:=29) (N:=some 42) m30_4 rfl rfl qT ?_
            refine pV (i:=30) (N:=some 43) m31_4 rfl rfl qT ?_
            refine pV (i:=31) (N:=some 44) m32_4 rfl rfl qT ?_
            refine pV (i:=32) (N:=some 45) m33_4 rfl rfl qT ?_
            refine pV (i:=33) (N:=some 46) m34_4 rfl rfl qT ?_
            refine pV (i:=34) (N:=some 47) m35_4 rfl rfl qT ?_
            refine pV (i:=35) (N:=some 48) m36_4 rfl rfl qT ?_
            refine pV (i:=36) (N:=some 49) m37_4 rfl rfl qT ?_
            refine pV (i:=37) (N:=some 50) m38_4 rfl rfl qT ?_
            refine pV (i:=38) (N:=some 51) m39_4 rfl rfl qT ?_
            refine pV (i:=40) (N:=some 53) #[Y,Y,Y,Y,Y,Y,Y,Y,Y,Y,Y,Y,Y,Y,Y,Y,Y,Y,Y,Y,Y,Y,Y,Y,Y,Y,Y,Y,Y,Y,Y,Y,Y,Y,Y,Y,Y,Y,Y,Z,Y,Z,Z,Z,Z,Z,Z,Z] rfl rfl qT ?_
            refine pV (i:=41) (N:=some 54) #[Y,Y,Y,Y,Y,Y,Y,Y,Y,Y,Y,Y,Y,Y,Y,Y,Y,Y,Y,Y,Y,Y,Y,Y,Y,Y,Y,Y,Y,Y,Y,Y,Y,Y,Y,Y,Y,Y,Y,Z,Y,Y,Z,Z,Z,Z,Z,Z] rfl rfl qT ?_
            refine pV (i:=42) (N:=some 55) #[Y,Y,Y,Y,Y,Y,Y,Y,Y,Y,Y,Y,Y,Y,Y,Y,Y,Y,Y,Y,Y,Y,Y,Y,Y,Y,Y,Y,Y,Y,Y,Y,Y,Y,Y,Y,Y,Y,Y,Z,Y,Y,Y,Z,Z,Z,Z,Z] rfl rfl qT ?_
            refine pV (i:=43) (N:=some 56) #[Y,Y,Y,Y,Y,Y,Y,Y,Y,Y,Y,Y,Y,Y,Y,Y,Y,Y,Y,Y,Y,Y,Y,Y,Y,Y,Y,Y,Y,Y,Y,Y,Y,Y,Y,Y,Y,Y,Y,Z,Y,Y,Y,Y,Z,Z,Z,Z] rfl rfl qT ?_
            refine take_ (i:=39) (N:=some 52) (v:=?_) (a':=?_) m44_4 rfl rfl (take_ofW HT_.out HW_.out (by kernel_rfl)) (fun _ _ _ h => h) (Or.inl ⟨by rfl,?_⟩) hHeld ?_ ?_;rotate_left
            ·rintro w' ⟨s0,s1,s2,s3,s4,s5,s6,s7,s8,s9,s10,s11,s12,s13,s14,s15,s16,s17⟩
             go_simp;with_reducible rfl
            rotate_left
            ·simp only [Act.put,sA,s0,s1,i64_w,i32_w];rfl
            refine take_ (i:=44) (N:=some 57) (v:=?_) (a':=?_) m45_4 rfl rfl (take_ofW HT_.out HW_.out (by kernel_rfl)) (fun _ _ _ h => h) (Or.inl ⟨by rfl,?_⟩) hHeld ?_ ?_;rotate_left
            ·rintro w' ⟨s0,s1,s2,s3,s4,s5,s6,s7,s8,s9,s10,s11,s12,s13,s14,s15,s16,s17⟩
             go_simp;with_reducible rfl
            rotate_left
            ·simp only [Act.put,sA,s0,s1,i64_w,i32_w];rfl
            refine pV (i:=45) (N:=some 58) m46_4 rfl rfl qT ?_
            refine pV (i:=46) (N:=some 59) m47_4 rfl rfl qT ?_
            refine pV (i:=47) (N:=some 60) m48_4 rfl rfl qT ?_
            refine done_ (done_of HT_.out (by kernel_rfl)) ?_
            try go_wp2
            go_meet
            case rel => exact ⟨_,(decide (((rd_T45 l0 (ji14)).f0) ≥ ((rd_T45 l0 x4_1).f0))),(by first | rfl | (simp;done) | (simp only [← hji14] <;> (first | rfl | simp)) | (simp [*];done)),H',⟨qq99⟩,⟨qq91⟩,⟨qq71⟩⟩
           ·rw [if_neg c16] at H;exact absurd H (by simp)
          ·rw [if_neg c15] at H;exact absurd H (by simp)
         ·rw [if_neg c13] at H;have c13b0 : decide (0 < x4_1) = false:=decide_eq_false c13;clear c13;have H':=am H;clear H
          try go_wp2
          replace HO_3:=am qq135;replace HB:=am qq134;have p159 : 0 ≤ (x4_1 : Int):=odt qq100;have q159 : x4_1 < (l0.length : Int):=odt qq100;obtain ⟨ad159,A159_2,c159_2,e159,hx159_0,hx159_1,hx159_2,hl159_2,hi159_2⟩:=at_T45 HR0.out x4_1 p159 q159;have hw159_2:=hx159_2;have hw159_1:=hx159_1;have hw159_0:=hx159_0
          cases e159
          replace hx159_0:=(ct HB.out hx159_0 :)
          replace hx159_1:=(ct HB.out hx159_1 :)
          replace hx159_2:=(ct HB.out hx159_2 :)
          have HR159_2:=am hi159_2;have HC159_2:=am hl159_2;clear hi159_2 hl159_2;replace p159:=eq_true p159;replace q159:=eq_true q159;have p161 : 0 ≤ (x4_1 : Int):=odt qq100;have q161 : x4_1 < (l0.length : Int):=odt qq100;obtain ⟨ad161,A161_2,c161_2,e161,hx161_0,hx161_1,hx161_2,hl161_2,hi161_2⟩:=at_T45 HR0.out x4_1 p161 q161;have hw161_2:=hx161_2;have hw161_1:=hx161_1;have hw161_0:=hx161_0;obtain rfl : ad159 = ad161:=(by injection e161)
          replace hx161_0:=(ct HB.out hx161_0 :)
          replace hx161_1:=(ct HB.out hx161_1 :)
          replace hx161_2:=(ct HB.out hx161_2 :)
          have HR161_2:=am hi161_2;have HC161_2:=am hl161_2;clear hi161_2 hl161_2;replace p161:=eq_true p161;replace q161:=eq_true q161;have ea_:=Option.some.inj (hx159_2.symm.trans hx161_2)
          injection ea_ with ea_ en_ ec_
          subst ea_;subst ec_;clear en_;have p163 : 0 ≤ (x4_1 : Int):=odt qq100;have q163 : x4_1 < (l0.length : Int):=odt qq100;obtain ⟨ad163,A163_2,c163_2,e163,hx163_0,hx163_1,hx163_2,hl163_2,hi163_2⟩:=at_T45 HR0.out x4_1 p163 q163;have hw163_2:=hx163_2;have hw163_1:=hx163_1;have hw163_0:=hx163_0;obtain rfl : ad159 = ad163:=(by injection e163)
          replace hx163_0:=(ct HB.out hx163_0 :)
          replace hx163_1:=(ct HB.out hx163_1 :)
          replace hx163_2:=(ct HB.out hx163_2 :)
          have HR163_2:=am hi163_2;have HC163_2:=am hl163_2;clear hi163_2 hl163_2;replace p163:=eq_true p163;replace q163:=eq_true q163;have ea_:=Option.some.inj (hx159_2.symm.trans hx163_2)
          injection ea_ with ea_ en_ ec_
          subst ea_;subst ec_;clear en_;have p164 : 0 ≤ (x4_1 : Int):=odt qq100;have q164 : x4_1 < (l0.length : Int):=odt qq100;obtain ⟨ad164,A164_2,c164_2,e164,hx164_0,hx164_1,hx164_2,hl164_2,hi164_2⟩:=at_T45 HR0.out x4_1 p164 q164;have hw164_2:=hx164_2;have hw164_1:=hx164_1;have hw164_0:=hx164_0;obtain rfl : ad159 = ad164:=(by injection e164)
          replace hx164_0:=(ct HB.out hx164_0 :)
          replace hx164_1:=(ct HB.out hx164_1 :)
          replace hx164_2:=(ct HB.out hx164_2 :)
          have HR164_2:=am hi164_2;have HC164_2:=am hl164_2;clear hi164_2 hl164_2;replace p164:=eq_true p164;replace q164:=eq_true q164;have ea_:=Option.some.inj (hx159_2.symm.trans hx164_2)
          injection ea_ with ea_ en_ ec_
          subst ea_;subst ec_;clear en_;refine start_ (n:=48) (S:=fun w' => w'.cell? (ad159.add ((x4_1).toNat * 3)) = some (.int .i64 ((rd_T45 l0 x4_1).f0)) ∧ w'.cell? ⟨(ad159.add ((x4_1).toNat * 3)).block,(ad159.add ((x4_1).toNat * 3)).off + 1,none⟩ = some (.int .i64 ((rd_T45 l0 x4_1).f1)) ∧ w'.cell? ⟨(ad159.add ((x4_1).toNat * 3)).block,(ad159.add ((x4_1).toNat * 3)).off + 2,none⟩ = some (.slice A159_2 ((rd_T45 l0 x4_1).f2).length c159_2) ∧ w'.cell? (ad159.add ((x4_1).toNat * 3)) = some (.int .i64 ((rd_T45 l0 x4_1).f0)) ∧ w'.cell? ⟨(ad159.add ((x4_1).toNat * 3)).block,(ad159.add ((x4_1).toNat * 3)).off + 1,none⟩ = some (.int .i64 ((rd_T45 l0 x4_1).f1)) ∧ w'.cell? ⟨(ad159.add ((x4_1).toNat * 3)).block,(ad159.add ((x4_1).toNat * 3)).off + 2,none⟩ = some (.slice A159_2 ((rd_T45 l0 x4_1).f2).length c159_2) ∧ w'.cell? (ad159.add ((x4_1).toNat * 3)) = some (.int .i64 ((rd_T45 l0 x4_1).f0)) ∧ w'.cell? ⟨(ad159.add ((x4_1).toNat * 3)).block,(ad159.add ((x4_1).toNat * 3)).off + 1,none⟩ = some (.int .i64 ((rd_T45 l0 x4_1).f1)) ∧ w'.cell? ⟨(ad159.add ((x4_1).toNat * 3)).block,(ad159.add ((x4_1).toNat * 3)).off + 2,none⟩ = some (.slice A159_2 ((rd_T45 l0 x4_1).f2).length c159_2) ∧ w'.cell? (ad159.add ((x4_1).toNat * 3)) = some (.int .i64 ((rd_T45 l0 x4_1).f0)) ∧ w'.cell? ⟨(ad159.add ((x4_1).toNat * 3)).block,(ad159.add ((x4_1).toNat * 3)).off + 1,none⟩ = some (.int .i64 ((rd_T45 l0 x4_1).f1)) ∧ w'.cell? ⟨(ad159.add ((x4_1).toNat * 3)).block,(ad159.add ((x4_1).toNat * 3)).off + 2,none⟩ = some (.slice A159_2 ((rd_T45 l0 x4_1).f2).length c159_2)) (ds:=[]) m0_4 (by kernel_rfl) rfl rfl ⟨(ct HB.out hw159_0 :),(ct HB.out hw159_1 :),(ct HB.out hw159_2 :),(ct HB.out hw161_0 :),(ct HB.out hw161_1 :),(ct HB.out hw161_2 :),(ct HB.out hw163_0 :),(ct HB.out hw163_1 :),(ct HB.out hw163_2 :),(ct HB.out hw164_0 :),(ct HB.out hw164_1 :),(ct HB.out hw164_2 :)⟩ (fun hHeld => ?_);refine with_tabW spec_AreTents.tab5 spec_AreTents.bits5 (fun HT_ HW_ => ?_)
          generalize wr.drew = w18 at HO_3 HB HR159_2 HR161_2 HR163_2 HR164_2 hx159_0 hx159_1 hx159_2 hx161_0 hx161_1 hx161_2 hx163_0 hx163_1 hx163_2 hx164_0 hx164_1 hx164_2 hHeld ⊢
          refine pV (i:=0) (N:=some 13) m1_4 rfl rfl qT ?_
          refine pV (i:=1) (N:=some 14) m2_4 rfl rfl qT ?_
          refine pV (i:=2) (N:=some 15) m3_4 rfl rfl qT ?_
          refine pV (i:=3) (N:=some 16) m4_4 rfl rfl qT ?_
          refine take_ (i:=4) (N:=some 17) (v:=?_) (a':=?_) m5_4 rfl rfl (take_ofW HT_.out HW_.out (by kernel_rfl)) (fun _ _ _ h => h) (Or.inl ⟨by rfl,?_⟩) hHeld ?_ ?_;rotate_left
          ·rintro w' ⟨s0,s1,s2,s3,s4,s5,s6,s7,s8,s9,s10,s11⟩
           go_simp;with_reducible rfl
          rotate_left
          ·simp only [Act.put,sA,s0,s1,i64_w,i32_w];rfl
          refine one_ (i:=5) (N:=some 18) m6_4 rfl rfl (one_of HT_.out (by kernel_rfl)) (by decide) (fun K hK => ?_);refine goes_ Try.func47 (by kernel_rfl) rfl #[.int .i64 ((rd_T45 l0 x4_1).f0),.int .i64 1,.int .i64 99] (by rfl) rfl rfl qq60 ?_;with_reducible refine (spec_l1In.calls ((rd_T45 l0 x4_1).f0) 1 99 true _ A7.out).mono ?_
          rintro e w' ⟨rfl,⟨nd,rfl⟩⟩
          refine ⟨_,rfl,?_⟩;refine hK.out _ _ ⟨(ct HB.out hw159_0 :),(ct HB.out hw159_1 :),(ct HB.out hw159_2 :),(ct HB.out hw161_0 :),(ct HB.out hw161_1 :),(ct HB.out hw161_2 :),(ct HB.out hw163_0 :),(ct HB.out hw163_1 :),(ct HB.out hw163_2 :),(ct HB.out hw164_0 :),(ct HB.out hw164_1 :),(ct HB.out hw164_2 :)⟩ (fun hHeld => ?_);clear hK K;refine norm_ (a':=?_) ?_ ?_;rotate_left
          ·show Act.put _ (some 18) _ = _
           simp only [Act.put,sA,s0,s1,i64_w,i32_w];rfl
          refine pV (i:=6) (N:=some 19) m7_4 rfl rfl qT ?_
          refine pV (i:=7) (N:=some 20) m8_4 rfl rfl qT ?_
          refine pV (i:=8) (N:=some 21) m9_4 rfl rfl qT ?_
          refine pV (i:=9) (N:=some 22) m10_4 rfl rfl qT ?_
          refine pV (i:=10) (N:=some 23) m11_4 rfl rfl qT ?_
          refine pV (i:=11) (N:=some 24) m12_4 rfl rfl qT ?_
          refine take_ (i:=12) (N:=some 25) (v:=?_) (a':=?_) m13_4 rfl rfl (take_ofW HT_.out HW_.out (by kernel_rfl)) (fun _ _ _ h => h) (Or.inl ⟨by rfl,?_⟩) hHeld ?_ ?_;rotate_left
          ·rintro w' ⟨s0,s1,s2,s3,s4,s5,s6,s7,s8,s9,s10,s11⟩
           go_simp;with_reducible rfl
          rotate_left
          ·simp only [Act.put,sA,s0,s1,i64_w,i32_w];rfl
          refine one_ (i:=13) (N:=some 26) m14_4 rfl rfl (one_of HT_.out (by kernel_rfl)) (by decide) (fun K hK => ?_);refine goes_ Try.func47 (by kernel_rfl) rfl #[.int .i64 ((rd_T45 l0 x4_1).f1),.int .i64 1,.int .i64 6] (by rfl) rfl rfl qq60 ?_;with_reducible refine (spec_l1In.calls ((rd_T45 l0 x4_1).f1) 1 6 true _ A9.out).mono ?_
          rintro e w' ⟨rfl,⟨nd,rfl⟩⟩
          refine ⟨_,rfl,?_⟩;refine hK.out _ _ ⟨(ct HB.out hw159_0 :),(ct HB.out hw159_1 :),(ct HB.out hw159_2 :),(ct HB.out hw161_0 :),(ct HB.out hw161_1 :),(ct HB.out hw161_2 :),(ct HB.out hw163_0 :),(ct HB.out hw163_1 :),(ct HB.out hw163_2 :),(ct HB.out hw164_0 :),(ct HB.out hw164_1 :),(ct HB.out hw164_2 :)⟩ (fun hHeld => ?_);clear hK K;refine norm_ (a':=?_) ?_ ?_;rotate_left
          ·show Act.put _ (some 26) _ = _
           simp only [Act.put,sA,s0,s1,i64_w,i32_w];rfl
          refine pV (i:=14) (N:=some 27) m15_4 rfl rfl qT ?_
          refine pV (i:=15) (N:=some 28) m16_4 rfl rfl qT ?_
          refine pV (i:=16) (N:=some 29) m17_4 rfl rfl qT ?_
          refine pV (i:=17) (N:=some 30) m18_4 rfl rfl qT ?_
          refine pV (i:=18) (N:=some 31) m19_4 rfl rfl qT ?_
          refine pV (i:=19) (N:=some 32) m20_4 rfl rfl qT ?_
          refine pV (i:=20) (N:=some 33) m21_4 rfl rfl qT ?_
          refine pV (i:=23) (N:=some 36) m22_4 rfl rfl qT ?_
          refine pV (i:=24) (N:=some 37) m23_4 rfl rfl qT ?_
          refine pV (i:=25) (N:=some 38) m24_4 rfl rfl qT ?_
          refine pV (i:=26) (N:=some 39) m25_4 rfl rfl qT ?_
          refine take_ (i:=21) (N:=some 34) (v:=?_) (a':=?_) m26_4 rfl rfl (take_ofW HT_.out HW_.out (by kernel_rfl)) (fun _ _ _ h => h) (Or.inl ⟨by rfl,?_⟩) hHeld ?_ ?_;rotate_left
          ·rintro w' ⟨s0,s1,s2,s3,s4,s5,s6,s7,s8,s9,s10,s11⟩
           go_simp;with_reducible rfl
          rotate_left
          ·simp only [Act.put,sA,s0,s1,i64_w,i32_w];rfl
          refine pV (i:=22) (N:=some 35) m27_4 rfl rfl qT ?_
          refine take_ (i:=27) (N:=some 40) (v:=?_) (a':=?_) m28_4 rfl rfl (take_ofW HT_.out HW_.out (by kernel_rfl)) (fun _ _ _ h => h) (Or.inl ⟨by rfl,?_⟩) hHeld ?_ ?_;rotate_left
          ·rintro w' ⟨s0,s1,s2,s3,s4,s5,s6,s7,s8,s9,s10,s11⟩
           go_simp;with_reducible rfl
          rotate_left
          ·simp only [Act.put,sA,s0,s1,i64_w,i32_w];rfl
          refine pV (i:=28) (N:=some 41) m29_4 rfl rfl qT ?_
          refine pV (i:=29) (N:=some 42) m30_4 rfl rfl qT ?_
          refine pV (i:=30) (N:=some 43) m31_4 rfl rfl qT ?_
          refine pV (i:=31) (N:=some 44) m32_4 rfl rfl qT ?_
          refine pV (i:=32) (N:=some 45) m33_4 rfl rfl qT ?_
          refine pV (i:=33) (N:=some 46) m34_4 rfl rfl qT ?_
          refine pW (i:=34) (N:=some 47) m35_4 rfl rfl qT ?_
          refine pW (i:=35) (N:=some 48) m36_4 rfl rfl qT ?_
          refine pW (i:=36) (N:=some 49) m37_4 rfl rfl qT ?_
          refine pW (i:=37) (N:=some 50) m38_4 rfl rfl qT ?_
          refine pW (i:=38) (N:=some 51) m39_4 rfl rfl qT ?_
          refine pW (i:=39) (N:=some 52) m40_4 rfl rfl qT ?_
          refine pW (i:=40) (N:=some 53) m41_4 rfl rfl qT ?_
          refine pW (i:=41) (N:=some 54) m42_4 rfl rfl qT ?_
          refine pW (i:=42) (N:=some 55) m43_4 rfl rfl qT ?_
          refine pW (i:=43) (N:=some 56) m44_4 rfl rfl qT ?_
          refine pW (i:=44) (N:=some 57) m45_4 rfl rfl qT ?_
          refine pW (i:=45) (N:=some 58) m46_4 rfl rfl qT ?_
          refine pV (i:=46) (N:=some 59) m47_4 rfl rfl qT ?_
          refine pV (i:=47) (N:=some 60) m48_4 rfl rfl qT ?_
          refine done_ (done_of HT_.out (by kernel_rfl)) ?_
          try go_wp2
          go_meet
          case rel => exact ⟨_,(false),qq101,H',⟨qq99⟩,⟨qq91⟩,⟨qq71⟩⟩
       ·replace c10:=Bool.eq_false_iff.mpr c10;subst c10;have H1 : (spec_AreTents.j1 k1 l0 x3_1 x4_1 true) = some r:=by rw [if_neg (show ¬ (false = true) by decide)] at H;exact H
        clear H;have H:=H1;clear H1;have H':=am H;clear H
        try go_wp2
        replace HO_3:=am qq135;replace HB:=am qq134;have p159 : 0 ≤ (x4_1 : Int):=odt qq100;have q159 : x4_1 < (l0.length : Int):=odt qq100;obtain ⟨ad159,A159_2,c159_2,e159,hx159_0,hx159_1,hx159_2,hl159_2,hi159_2⟩:=at_T45 HR0.out x4_1 p159 q159;have hw159_2:=hx159_2;have hw159_1:=hx159_1;have hw159_0:=hx159_0
        cases e159
        replace hx159_0:=(ct HB.out hx159_0 :)
        replace hx159_1:=(ct HB.out hx159_1 :)
        replace hx159_2:=(ct HB.out hx159_2 :)
        have HR159_2:=am hi159_2;have HC159_2:=am hl159_2;clear hi159_2 hl159_2;replace p159:=eq_true p159;replace q159:=eq_true q159;have p161 : 0 ≤ (x4_1 : Int):=odt qq100;have q161 : x4_1 < (l0.length : Int):=odt qq100;obtain ⟨ad161,A161_2,c161_2,e161,hx161_0,hx161_1,hx161_2,hl161_2,hi161_2⟩:=at_T45 HR0.out x4_1 p161 q161;have hw161_2:=hx161_2;have hw161_1:=hx161_1;have hw161_0:=hx161_0;obtain rfl : ad159 = ad161:=(by injection e161)
        replace hx161_0:=(ct HB.out hx161_0 :)
        replace hx161_1:=(ct HB.out hx161_1 :)
        replace hx161_2:=(ct HB.out hx161_2 :)
        have HR161_2:=am hi161_2;have HC161_2:=am hl161_2;clear hi161_2 hl161_2;replace p161:=eq_true p161;replace q161:=eq_true q161;have ea_:=Option.some.inj (hx159_2.symm.trans hx161_2)
        injection ea_ with ea_ en_ ec_
        subst ea_;subst ec_;clear en_;refine start_ (n:=48) (S:=fun w' => w'.cell? (ad159.add ((x4_1).toNat * 3)) = some (.int .i64 ((rd_T45 l0 x4_1).f0)) ∧ w'.cell? ⟨(ad159.add ((x4_1).toNat * 3)).block,(ad159.add ((x4_1).toNat * 3)).off + 1,none⟩ = some (.int .i64 ((rd_T45 l0 x4_1).f1)) ∧ w'.cell? ⟨(ad159.add ((x4_1).toNat * 3)).block,(ad159.add ((x4_1).toNat * 3)).off + 2,none⟩ = some (.slice A159_2 ((rd_T45 l0 x4_1).f2).length c159_2) ∧ w'.cell? (ad159.add ((x4_1).toNat * 3)) = some (.int .i64 ((rd_T45 l0 x4_1).f0)) ∧ w'.cell? ⟨(ad159.add ((x4_1).toNat * 3)).block,(ad159.add ((x4_1).toNat * 3)).off + 1,none⟩ = some (.int .i64 ((rd_T45 l0 x4_1).f1)) ∧ w'.cell? ⟨(ad159.add ((x4_1).toNat * 3)).block,(ad159.add ((x4_1).toNat * 3)).off + 2,none⟩ = some (.slice A159_2 ((rd_T45 l0 x4_1).f2).length c159_2)) (ds:=[]) m0_4 (by kernel_rfl) rfl rfl ⟨(ct HB.out hw159_0 :),(ct HB.out hw159_1 :),(ct HB.out hw159_2 :),(ct HB.out hw161_0 :),(ct HB.out hw161_1 :),(ct HB.out hw161_2 :)⟩ (fun hHeld => ?_);refine with_tabW spec_AreTents.tab5 spec_AreTents.bits5 (fun HT_ HW_ => ?_)
        generalize wr.drew = w19 at HO_3 HB HR159_2 HR161_2 hx159_0 hx159_1 hx159_2 hx161_0 hx161_1 hx161_2 hHeld ⊢
        refine pV (i:=0) (N:=some 13) m1_4 rfl rfl qT ?_
        refine pV (i:=1) (N:=some 14) m2_4 rfl rfl qT ?_
        refine pV (i:=2) (N:=some 15) m3_4 rfl rfl qT ?_
        refine pV (i:=3) (N:=some 16) m4_4 rfl rfl qT ?_
        refine tV6 (i:=4) (N:=some 17) m5_4 rfl rfl (take_ofW HT_.out HW_.out (by kernel_rfl)) hHeld ?_
        refine one_ (i:=5) (N:=some 18) m6_4 rfl rfl (one_of HT_.out (by kernel_rfl)) (by decide) (fun K hK => ?_);refine goes_ Try.func47 (by kernel_rfl) rfl #[.int .i64 ((rd_T45 l0 x4_1).f0),.int .i64 1,.int .i64 99] (by rfl) rfl rfl qq60 ?_;with_reducible refine (spec_l1In.calls ((rd_T45 l0 x4_1).f0) 1 99 true _ A7.out).mono ?_
        rintro e w' ⟨rfl,⟨nd,rfl⟩⟩
        refine ⟨_,rfl,?_⟩;refine hK.out _ _ ⟨(ct HB.out hw159_0 :),(ct HB.out hw159_1 :),(ct HB.out hw159_2 :),(ct HB.out hw161_0 :),(ct HB.out hw161_1 :),(ct HB.out hw161_2 :)⟩ (fun hHeld => ?_);clear hK K;refine norm_ (a':=?_) ?_ ?_;rotate_left
        ·show Act.put _ (some 18) _ = _
         simp only [Act.put,sA,s0,s1,i64_w,i32_w];rfl
        refine pV (i:=6) (N:=some 19) m7_4 rfl rfl qT ?_
        refine pV (i:=7) (N:=some 20) m8_4 rfl rfl qT ?_
        refine pV (i:=8) (N:=some 21) m9_4 rfl rfl qT ?_
        refine pV (i:=9) (N:=some 22) m10_4 rfl rfl qT ?_
        refine pV (i:=10) (N:=some 23) m11_4 rfl rfl qT ?_
        refine pV (i:=11) (N:=some 24) m12_4 rfl rfl qT ?_
        refine tV6 (i:=12) (N:=some 25) m13_4 rfl rfl (take_ofW HT_.out HW_.out (by kernel_rfl)) hHeld ?_
        refine one_ (i:=13) (N:=some 26) m14_4 rfl rfl (one_of HT_.out (by kernel_rfl)) (by decide) (fun K hK => ?_);refine goes_ Try.func47 (by kernel_rfl) rfl #[.int .i64 ((rd_T45 l0 x4_1).f1),.int .i64 1,.int .i64 6] (by rfl) rfl rfl qq60 ?_;with_reducible refine (spec_l1In.calls ((rd_T45 l0 x4_1).f1) 1 6 false _ A9.out).mono ?_
        rintro e w' ⟨rfl,⟨nd,rfl⟩⟩
        refine ⟨_,rfl,?_⟩;refine hK.out _ _ ⟨(ct HB.out hw159_0 :),(ct HB.out hw159_1 :),(ct HB.out hw159_2 :),(ct HB.out hw161_0 :),(ct HB.out hw161_1 :),(ct HB.out hw161_2 :)⟩ (fun hHeld => ?_);clear hK K;refine norm_ (a':=?_) ?_ ?_;rotate_left
        ·show Act.put _ (some 26) _ = _
         simp only [Act.put,sA,s0,s1,i64_w,i32_w];rfl
        refine pV (i:=14) (N:=some 27) m15_4 rfl rfl qT ?_
        refine pV (i:=15) (N:=some 28) m16_4 rfl rfl qT ?_
        refine pV (i:=16) (N:=some 29) m17_4 rfl rfl qT ?_
        refine pW (i:=17) (N:=some 30) m18_4 rfl rfl qT ?_
        refine pW (i:=18) (N:=some 31) m19_4 rfl rfl qT ?_
        refine pW (i:=19) (N:=some 32) m20_4 rfl rfl qT ?_
        refine pW (i:=20) (N:=some 33) m21_4 rfl rfl qT ?_
        refine pW (i:=21) (N:=some 34) m49_4 rfl rfl qT ?_
        refine pW (i:=22) (N:=some 35) m50_4 rfl rfl qT ?_
        refine pW (i:=23) (N:=some 36) m51_4 rfl rfl qT ?_
        refine pW (i:=24) (N:=some 37) m52_4 rfl rfl qT ?_
        refine pW (i:=25) (N:=some 38) m53_4 rfl rfl qT ?_
        refine pW (i:=26) (N:=some 39) m27_4 rfl rfl qT ?_
        refine pW (i:=27) (N:=some 40) m28_4 rfl rfl qT ?_
        refine pW (i:=28) (N:=some 41) m29_4 rfl rfl qT ?_
        refine pV (i:=29) (N:=some 42) m30_4 rfl rfl qT ?_
        refine pV (i:=30) (N:=some 43) m31_4 rfl rfl qT ?_
        refine pW (i:=31) (N:=some 44) m32_4 rfl rfl qT ?_
        refine pW (i:=32) (N:=some 45) m33_4 rfl rfl qT ?_
        refine pW (i:=33) (N:=some 46) m34_4 rfl rfl qT ?_
        refine pW (i:=34) (N:=some 47) m35_4 rfl rfl qT ?_
        refine pW (i:=35) (N:=some 48) m36_4 rfl rfl qT ?_
        refine pW (i:=36) (N:=some 49) m37_4 rfl rfl qT ?_
        refine pW (i:=37) (N:=some 50) m38_4 rfl rfl qT ?_
        refine pW (i:=38) (N:=some 51) m39_4 rfl rfl qT ?_
        refine pW (i:=39) (N:=some 52) m40_4 rfl rfl qT ?_
        refine pW (i:=40) (N:=some 53) m41_4 rfl rfl qT ?_
        refine pW (i:=41) (N:=some 54) m42_4 rfl rfl qT ?_
        refine pW (i:=42) (N:=some 55) m43_4 rfl rfl qT ?_
        refine pW (i:=43) (N:=some 56) m44_4 rfl rfl qT ?_
        refine pW (i:=44) (N:=some 57) m45_4 rfl rfl qT ?_
        refine pW (i:=45) (N:=some 58) m46_4 rfl rfl qT ?_
        refine pW (i:=46) (N:=some 59) m47_4 rfl rfl qT ?_
        refine pV (i:=47) (N:=some 60) m48_4 rfl rfl qT ?_
        refine done_ (done_of HT_.out (by kernel_rfl)) ?_
        try go_wp2
        go_meet
        case rel => exact ⟨_,(true),qq101,H',⟨qq99⟩,⟨qq91⟩,⟨qq71⟩⟩
      ·replace c8:=Bool.eq_false_iff.mpr c8;subst c8;have H1 : (spec_AreTents.j1 k1 l0 x3_1 x4_1 true) = some r:=by rw [if_neg (show ¬ (false = true) by decide)] at H;exact H
       clear H;have H:=H1;clear H1;have H':=am H;clear H
       try go_wp2
       replace HO_3:=am qq135;replace HB:=am qq134;have p159 : 0 ≤ (x4_1 : Int):=odt qq100;have q159 : x4_1 < (l0.length : Int):=odt qq100;obtain ⟨ad159,A159_2,c159_2,e159,hx159_0,hx159_1,hx159_2,hl159_2,hi159_2⟩:=at_T45 HR0.out x4_1 p159 q159;have hw159_2:=hx159_2;have hw159_1:=hx159_1;have hw159_0:=hx159_0
       cases e159
       replace hx159_0:=(ct HB.out hx159_0 :)
       replace hx159_1:=(ct HB.out hx159_1 :)
       replace hx159_2:=(ct HB.out hx159_2 :)
       have HR159_2:=am hi159_2;have HC159_2:=am hl159_2;clear hi159_2 hl159_2;replace p159:=eq_true p159;replace q159:=eq_true q159;refine start_ (n:=48) (S:=fun w' => w'.cell? (ad159.add ((x4_1).toNat * 3)) = some (.int .i64 ((rd_T45 l0 x4_1).f0)) ∧ w'.cell? ⟨(ad159.add ((x4_1).toNat * 3)).block,(ad159.add ((x4_1).toNat * 3)).off + 1,none⟩ = some (.int .i64 ((rd_T45 l0 x4_1).f1)) ∧ w'.cell? ⟨(ad159.add ((x4_1).toNat * 3)).block,(ad159.add ((x4_1).toNat * 3)).off + 2,none⟩ = some (.slice A159_2 ((rd_T45 l0 x4_1).f2).length c159_2)) (ds:=[]) m0_4 (by kernel_rfl) rfl rfl ⟨(ct HB.out hw159_0 :),(ct HB.out hw159_1 :),(ct HB.out hw159_2 :)⟩ (fun hHeld => ?_);refine with_tabW spec_AreTents.tab5 spec_AreTents.bits5 (fun HT_ HW_ => ?_)
       generalize wr.drew = w20 at HO_3 HB HR159_2 hx159_0 hx159_1 hx159_2 hHeld ⊢
       refine pV (i:=0) (N:=some 13) m1_4 rfl rfl qT ?_
       refine pV (i:=1) (N:=some 14) m2_4 rfl rfl qT ?_
       refine pV (i:=2) (N:=some 15) m3_4 rfl rfl qT ?_
       refine pV (i:=3) (N:=some 16) m4_4 rfl rfl qT ?_
       refine tV3 (i:=4) (N:=some 17) m5_4 rfl rfl (take_ofW HT_.out HW_.out (by kernel_rfl)) hHeld ?_
       refine one_ (i:=5) (N:=some 18) m6_4 rfl rfl (one_of HT_.out (by kernel_rfl)) (by decide) (fun K hK => ?_);refine goes_ Try.func47 (by kernel_rfl) rfl #[.int .i64 ((rd_T45 l0 x4_1).f0),.int .i64 1,.int .i64 99] (by rfl) rfl rfl qq60 ?_;with_reducible refine (spec_l1In.calls ((rd_T45 l0 x4_1).f0) 1 99 false _ A7.out).mono ?_
       rintro e w' ⟨rfl,⟨nd,rfl⟩⟩
       refine ⟨_,rfl,?_⟩;refine hK.out _ _ ⟨(ct HB.out hw159_0 :),(ct HB.out hw159_1 :),(ct HB.out hw159_2 :)⟩ (fun hHeld => ?_);clear hK K;refine norm_ (a':=?_) ?_ ?_;rotate_left
       ·show Act.put _ (some 18) _ = _
        simp only [Act.put,sA,s0,s1,i64_w,i32_w];rfl
       refine pV (i:=6) (N:=some 19) m7_4 rfl rfl qT ?_
       refine pV (i:=7) (N:=some 20) m8_4 rfl rfl qT ?_
       refine pW (i:=8) (N:=some 21) m9_4 rfl rfl qT ?_
       refine pW (i:=9) (N:=some 22) m10_4 rfl rfl qT ?_
       refine pW (i:=10) (N:=some 23) m11_4 rfl rfl qT ?_
       refine pW (i:=11) (N:=some 24) m12_4 rfl rfl qT ?_
       refine pW (i:=12) (N:=some 25) m13_4 rfl rfl qT ?_
       refine pW (i:=13) (N:=some 26) m14_4 rfl rfl qT ?_
       refine pW (i:=14) (N:=some 27) m15_4 rfl rfl qT ?_
       refine pV (i:=15) (N:=some 28) m16_4 rfl rfl qT ?_
       refine pV (i:=16) (N:=some 29) m17_4 rfl rfl qT ?_
       refine pW (i:=17) (N:=some 30) m18_4 rfl rfl qT ?_
       refine pW (i:=18) (N:=some 31) m19_4 rfl rfl qT ?_
       refine pW (i:=19) (N:=some 32) m20_4 rfl rfl qT ?_
       refine pW (i:=20) (N:=some 33) m21_4 rfl rfl qT ?_
       refine pW (i:=21) (N:=some 34) m49_4 rfl rfl qT ?_
       refine pW (i:=22) (N:=some 35) m50_4 rfl rfl qT ?_
       refine pW (i:=23) (N:=some 36) m51_4 rfl rfl qT ?_
       refine pW (i:=24) (N:=some 37) m52_4 rfl rfl qT ?_
       refine pW (i:=25) (N:=some 38) m53_4 rfl rfl qT ?_
       refine pW (i:=26) (N:=some 39) m27_4 rfl rfl qT ?_
       refine pW (i:=27) (N:=some 40) m28_4 rfl rfl qT ?_
       refine pW (i:=28) (N:=some 41) m29_4 rfl rfl qT ?_
       refine pV (i:=29) (N:=some 42) m30_4 rfl rfl qT ?_
       refine pV (i:=30) (N:=some 43) m31_4 rfl rfl qT ?_
       refine pW (i:=31) (N:=some 44) m32_4 rfl rfl qT ?_
       refine pW (i:=32) (N:=some 45) m33_4 rfl rfl qT ?_
       refine pW (i:=33) (N:=some 46) m34_4 rfl rfl qT ?_
       refine pW (i:=34) (N:=some 47) m35_4 rfl rfl qT ?_
       refine pW (i:=35) (N:=some 48) m36_4 rfl rfl qT ?_
       refine pW (i:=36) (N:=some 49) m37_4 rfl rfl qT ?_
       refine pW (i:=37) (N:=some 50) m38_4 rfl rfl qT ?_
       refine pW (i:=38) (N:=some 51) m39_4 rfl rfl qT ?_
       refine pW (i:=39) (N:=some 52) m40_4 rfl rfl qT ?_
       refine pW (i:=40) (N:=some 53) m41_4 rfl rfl qT ?_
       refine pW (i:=41) (N:=some 54) m42_4 rfl rfl qT ?_
       refine pW (i:=42) (N:=some 55) m43_4 rfl rfl qT ?_
       refine pW (i:=43) (N:=some 56) m44_4 rfl rfl qT ?_
       refine pW (i:=44) (N:=some 57) m45_4 rfl rfl qT ?_
       refine pW (i:=45) (N:=some 58) m46_4 rfl rfl qT ?_
       refine pW (i:=46) (N:=some 59) m47_4 rfl rfl qT ?_
       refine pV (i:=47) (N:=some 60) m48_4 rfl rfl qT ?_
       refine done_ (done_of HT_.out (by kernel_rfl)) ?_
       try go_wp2
       go_meet
       case rel => exact ⟨_,(true),qq101,H',⟨qq99⟩,⟨qq91⟩,⟨qq71⟩⟩
     ·rw [if_neg c6] at H;exact absurd H (by simp)
    case rest =>
     clear HC5
     try clear c1
     try clear p1
     try clear q1
     try clear hx1
     try clear p2
     try clear c4
     try clear c6
     try clear c8
     try clear c15
     try clear p15
     try clear q15
     try clear hx15
     try clear c16
     try clear p16
     try clear q16
     try clear hx16
     try clear hx159_0
     try clear hx159_1
     try clear hx159_2
     try clear hx161_0
     try clear hx161_1
     try clear hx161_2
     try clear p159
     try clear p161
     try clear q159
     try clear q161
     obtain ⟨kq,x60_4,rfl,HA,HJ4,HO_3,HB⟩:=hcut
     cases kq with
     | zero => exact absurd HA.out (by simp [spec_AreTents.j1])
     | succ kj4 =>
      have H:=HA.out;clear HA;simp only [spec_AreTents.j1] at H
      by_cases c21 : x60_4 = true
      ·subst c21;have H1 : (some false) = some r:=by rw [if_pos rfl] at H;exact H
       clear H;have H:=H1;clear H1;obtain rfl:=Option.some.inj H;go_wp2
       go_ret
       exact ⟨qq89,qq71⟩
      ·replace c21:=Bool.eq_false_iff.mpr c21;subst c21;have H1 : (spec_AreTents.l1 kj4 l0 x3_1 x4_1 0) = some r:=by rw [if_neg (show ¬ (false = true) by decide)] at H;exact H
       clear H;have H:=H1;clear H1;have H':=am H;clear H;go_wp2
       go_loopg [3,5] kj4 (fun kq v3 v5 w' => ∃ (x3_3 : List Int) (x5_3 : Int),v5 = .int .i64 x5_3 ∧ Aside0 (spec_AreTents.l1 kq l0 x3_3 x4_1 x5_3 = some r) ∧ Aside0 (kq ≤ kj4) ∧ Aside0 (Kd.R (Kd.int .i64) 3 w' w.heap.size (fun _ => True) v3 x3_3) ∧ Aside0 (Below w.heap.size w w'))
       case atStart => exact ⟨(x3_1),(0),qq101,H',⟨Nat.le_refl _⟩,⟨qq91⟩,⟨qq71⟩⟩
       case round =>
        clear H'
        try clear c1
        try clear p1
        try clear q1
        try clear hx1
        try clear c2
        try clear p2
        try clear c4
        try clear c6
        try clear c8
        try clear c15
        try clear p15
        try clear q15
        try clear hx15
        try clear c16
        try clear p16
        try clear q16
        try clear hx16
        try clear c21
        try clear hx159_0
        try clear hx159_1
        try clear hx159_2
        try clear hx161_0
        try clear hx161_1
        try clear hx161_2
        try clear p1
        try clear p15
        try clear p159
        try clear p16
        try clear p161
        try clear p2
        try clear q1
        try clear q15
        try clear q159
        try clear q16
        try clear q161
        obtain ⟨x3_3,x5_3,rfl,HA,HK3,HO_3,HB⟩:=hrel
        cases gk with
        | zero => exact absurd HA.out (by simp [spec_AreTents.l1])
        | succ k3 =>
         have H:=HA.out;clear HA;simp only [spec_AreTents.l1] at H
         by_cases c22 : 0 ≤ x4_1
         ·rw [if_pos c22] at H;have c22b0 : decide (0 ≤ x4_1) = true:=decide_eq_true c22;clear c22
          by_cases c23 : x4_1 < (l0.length : Int)
          ·rw [if_pos c23] at H;have c23b0 : decide (x4_1 < (l0.length : Int)) = true:=decide_eq_true c23;clear c23
           by_cases c24 : x5_3 < (((rd_T45 l0 x4_1).f2).length : Int)
           ·rw [if_pos c24] at H;have c24b0 : decide (x5_3 < (((rd_T45 l0 x4_1).f2).length : Int)) = true:=decide_eq_true c24;clear c24
            by_cases c25 : 0 ≤ x5_3
            ·rw [if_pos c25] at H;have c25b0 : decide (0 ≤ x5_3) = true:=decide_eq_true c25;clear c25;replace H:=bS.mp H;obtain ⟨t170,A260,H⟩:=H;replace H : (if t170 = true then (some false) else (if x3_3.length < 17592186044416 then (spec_AreTents.l1 k3 l0 (x3_3 ++ [rd ((rd_T45 l0 x4_1).f2) x5_3]) x4_1 (wrap64 (x5_3 + 1))) else (none))) = some r:=H;have A26:=am A260;clear A260
             by_cases c27 : t170 = true
             ·subst c27;have H1 : (some false) = some r:=by rw [if_pos rfl] at H;exact H
              clear H;have H:=H1;clear H1;obtain rfl:=Option.some.inj H;have p167 : 0 ≤ (x4_1 : Int):=odt qq100;have q167 : x4_1 < (l0.length : Int):=odt qq100;obtain ⟨ad167,A167_2,c167_2,e167,hx167_0,hx167_1,hx167_2,hl167_2,hi167_2⟩:=at_T45 HR0.out x4_1 p167 q167
              cases e167
              replace hx167_0:=(ct HB.out hx167_0 :)
              replace hx167_1:=(ct HB.out hx167_1 :)
              replace hx167_2:=(ct HB.out hx167_2 :)
              have HR167_2:=am hi167_2;have HC167_2:=am hl167_2;clear hi167_2 hl167_2;replace p167:=eq_true p167;replace q167:=eq_true q167;have p168 : 0 ≤ (x4_1 : Int):=odt qq100;have q168 : x4_1 < (l0.length : Int):=odt qq100;obtain ⟨ad168,A168_2,c168_2,e168,hx168_0,hx168_1,hx168_2,hl168_2,hi168_2⟩:=at_T45 HR0.out x4_1 p168 q168;obtain rfl : ad167 = ad168:=(by injection e168)
              replace hx168_0:=(ct HB.out hx168_0 :)
              replace hx168_1:=(ct HB.out hx168_1 :)
              replace hx168_2:=(ct HB.out hx168_2 :)
              have HR168_2:=am hi168_2;have HC168_2:=am hl168_2;clear hi168_2 hl168_2;replace p168:=eq_true p168;replace q168:=eq_true q168;have ea_:=Option.some.inj (hx167_2.symm.trans hx168_2)
              injection ea_ with ea_ en_ ec_
              subst ea_;subst ec_;clear en_;have p169 : 0 ≤ (x5_3 : Int):=odt qq100;have q169 : x5_3 < (((rd_T45 l0 x4_1).f2).length : Int):=odt qq100;obtain ⟨ad169,e169,hx169_0⟩:=Kd.at_int HR168_2.out x5_3 p169 q169
              cases e169
              replace hx169_0:=(ct HB.out hx169_0 :)
              replace p169:=eq_true p169;replace q169:=eq_true q169;obtain ⟨Ao28,co28,eo28⟩:=Kd.R_slice HO_3.out;subst eo28;go_wp2_with (first | ((with_reducible refine gate_callee (f:=46) rfl ?_);refine goesL_ (some 80) rfl rfl Try.func46 (by kernel_rfl) rfl #[.slice Ao28 x3_3.length co28,.int .i64 (rd ((rd_T45 l0 x4_1).f2) x5_3)] rfl qq60 ?_;(with_reducible refine (spec_l14Has.calls k3 _ _ x3_3 (rd ((rd_T45 l0 x4_1).f2) x5_3) true _ ?side1 ?side2 A26.out).mono ?_);(case side1 => exact qq44);(case side2 => exact qq104);rintro e w' ⟨rfl,⟨nd,rfl⟩⟩;refine ⟨_,rfl,?_⟩))
              go_ret
              exact ⟨qq89,qq71⟩
             ·replace c27:=Bool.eq_false_iff.mpr c27;subst c27;have H1 : (if x3_3.length < 17592186044416 then (spec_AreTents.l1 k3 l0 (x3_3 ++ [rd ((rd_T45 l0 x4_1).f2) x5_3]) x4_1 (wrap64 (x5_3 + 1))) else (none)) = some r:=by rw [if_neg (show ¬ (false = true) by decide)] at H;exact H
              clear H;have H:=H1;clear H1
              by_cases c29 : x3_3.length < 17592186044416
              ·rw [if_pos c29] at H;have LMc29:=am c29;clear c29;obtain ⟨y173,hy173⟩ : ∃ y_ : List Int,y_ = (x3_3 ++ [rd ((rd_T45 l0 x4_1).f2) x5_3]):=⟨_,rfl⟩
               replace H : (spec_AreTents.l1 k3 l0 y173 x4_1 (wrap64 (x5_3 + 1))) = some r:=by first | (rw [hy173];with_reducible exact H) | (have H2_:=(Option.bind_some _ _).symm.trans H;rw [hy173];with_reducible exact H2_) | (have H2_:=(Option.bind_some _ _).symm.trans H;with_reducible exact H2_) | with_reducible exact H | (rw [hy173];exact H) | exact H
               have Ny173:=am hy173;clear hy173;have H':=am H;clear H;have p167 : 0 ≤ (x4_1 : Int):=odt qq100;have q167 : x4_1 < (l0.length : Int):=odt qq100;obtain ⟨ad167,A167_2,c167_2,e167,hx167_0,hx167_1,hx167_2,hl167_2,hi167_2⟩:=at_T45 HR0.out x4_1 p167 q167
               cases e167
               replace hx167_0:=(ct HB.out hx167_0 :)
               replace hx167_1:=(ct HB.out hx167_1 :)
               replace hx167_2:=(ct HB.out hx167_2 :)
               have HR167_2:=am hi167_2;have HC167_2:=am hl167_2;clear hi167_2 hl167_2;replace p167:=eq_true p167;replace q167:=eq_true q167;have p168 : 0 ≤ (x4_1 : Int):=odt qq100;have q168 : x4_1 < (l0.length : Int):=odt qq100;obtain ⟨ad168,A168_2,c168_2,e168,hx168_0,hx168_1,hx168_2,hl168_2,hi168_2⟩:=at_T45 HR0.out x4_1 p168 q168;obtain rfl : ad167 = ad168:=(by injection e168)
               replace hx168_0:=(ct HB.out hx168_0 :)
               replace hx168_1:=(ct HB.out hx168_1 :)
               replace hx168_2:=(ct HB.out hx168_2 :)
               have HR168_2:=am hi168_2;have HC168_2:=am hl168_2;clear hi168_2 hl168_2;replace p168:=eq_true p168;replace q168:=eq_true q168;have ea_:=Option.some.inj (hx167_2.symm.trans hx168_2)
               injection ea_ with ea_ en_ ec_
               subst ea_;subst ec_;clear en_;have p169 : 0 ≤ (x5_3 : Int):=odt qq100;have q169 : x5_3 < (((rd_T45 l0 x4_1).f2).length : Int):=odt qq100;obtain ⟨ad169,e169,hx169_0⟩:=Kd.at_int HR168_2.out x5_3 p169 q169
               cases e169
               replace hx169_0:=(ct HB.out hx169_0 :)
               replace p169:=eq_true p169;replace q169:=eq_true q169;obtain ⟨Ao30,co30,eo30⟩:=Kd.R_slice HO_3.out;subst eo30;go_wp2_with (first | ((with_reducible refine gate_callee (f:=46) rfl ?_);refine goesL_ (some 80) rfl rfl Try.func46 (by kernel_rfl) rfl #[.slice Ao30 x3_3.length co30,.int .i64 (rd ((rd_T45 l0 x4_1).f2) x5_3)] rfl qq60 ?_;(with_reducible refine (spec_l14Has.calls k3 _ _ x3_3 (rd ((rd_T45 l0 x4_1).f2) x5_3) false _ ?side1 ?side2 A26.out).mono ?_);(case side1 => exact qq44);(case side2 => exact qq104);rintro e w' ⟨rfl,⟨nd,rfl⟩⟩;refine ⟨_,rfl,?_⟩;have p171 : 0 ≤ (x4_1 : Int):=odt qq100;have q171 : x4_1 < (l0.length : Int):=odt qq100;obtain ⟨ad171,A171_2,c171_2,e171,hx171_0,hx171_1,hx171_2,hl171_2,hi171_2⟩:=at_T45 HR0.out x4_1 p171 q171;obtain rfl : ad167 = ad171:=(by injection e171);replace hx171_0:=(ct HB.out hx171_0 :);replace hx171_1:=(ct HB.out hx171_1 :);replace hx171_2:=(ct HB.out hx171_2 :);have HR171_2:=am hi171_2;have HC171_2:=am hl171_2;clear hi171_2 hl171_2;replace p171:=eq_true p171;replace q171:=eq_true q171;have ea_:=Option.some.inj (hx167_2.symm.trans hx171_2);injection ea_ with ea_ en_ ec_;subst ea_;subst ec_;clear en_;have p172 : 0 ≤ (x5_3 : Int):=odt qq100;have q172 : x5_3 < (((rd_T45 l0 x4_1).f2).length : Int):=odt qq100;obtain ⟨ad172,e172,hx172_0⟩:=Kd.at_int HR171_2.out x5_3 p172 q172;cases e172;replace hx172_0:=(ct HB.out hx172_0 :);replace p172:=eq_true p172;replace q172:=eq_true q172) | ((with_reducible refine gate_builtin (b:=.append) (xs:=#[.tmp 81,.tmp 90]) rfl ?_);(try (refine gate_guard (by rfl) ?_;dsimp only));at_builtin;refine Kd.R_append (Kd.int .i64) (w0:=w) w.heap.size rfl (.tmp 81) (.tmp 90) 43 3 (.int .i64 0) 8 rfl Try.underlying43 info3 rfl (by decide) (by omega) (.slice Ao30 x3_3.length co30) x3_3 (rd ((rd_T45 l0 x4_1).f2) x5_3) [.int .i64 (rd ((rd_T45 l0 x4_1).f2) x5_3)] (fun _ => True) (fun _ => False) rfl rfl ?aP (fun _ hk => hk.elim) ?aF ?aO ?aB ?aS ?aL ?_;(case aP => exact rfl);(case aB => exact qq69);(case aF => exact qq106);(case aO => exact qq90);(case aS => exact qq66);(case aL => have:=LMc29.out;omega);intro v174 w31 ho hb hg hat;rw [← Ny173.out] at ho;replace HB:=am (hb);have HO175:=am (ho);clear HO_3;clear ho hb hg hat))
               go_roundg k3
               case measure => have:=HK1.out;have:=HJ4.out;have:=HK3.out;omega
               case rel => exact ⟨(y173),(wrap64 (x5_3 + 1)),qq101,H',⟨by have:=HK1.out;have:=HJ4.out;have:=HK3.out;omega⟩,⟨by (with_reducible repeat (first | apply kA | apply kN | apply kD));exact HO175.out⟩,⟨qq71⟩⟩
              ·rw [if_neg c29] at H;exact absurd H (by simp)
            ·rw [if_neg c25] at H;exact absurd H (by simp)
           ·rw [if_neg c24] at H;have c24b0 : decide (x5_3 < (((rd_T45 l0 x4_1).f2).length : Int)) = false:=decide_eq_false c24;clear c24;have H':=am H;clear H;have p167 : 0 ≤ (x4_1 : Int):=odt qq100;have q167 : x4_1 < (l0.length : Int):=odt qq100;obtain ⟨ad167,A167_2,c167_2,e167,hx167_0,hx167_1,hx167_2,hl167_2,hi167_2⟩:=at_T45 HR0.out x4_1 p167 q167
            cases e167
            replace hx167_0:=(ct HB.out hx167_0 :)
            replace hx167_1:=(ct HB.out hx167_1 :)
            replace hx167_2:=(ct HB.out hx167_2 :)
            have HR167_2:=am hi167_2;have HC167_2:=am hl167_2;clear hi167_2 hl167_2;replace p167:=eq_true p167;replace q167:=eq_true q167;go_wp2
            go_roundg k3
            case measure => have:=HK1.out;have:=HJ4.out;have:=HK3.out;omega
            case rel => exact ⟨(x3_3),(wrap64 (x4_1 + 1)),qq101,H',⟨by have:=HK1.out;have:=HJ4.out;have:=HK3.out;omega⟩,⟨qq91⟩,⟨qq71⟩⟩
          ·rw [if_neg c23] at H;exact absurd H (by simp)
         ·rw [if_neg c22] at H;exact absurd H (by simp)
   ·rw [if_neg c4] at H;have c4b0 : decide (x4_1 < (l0.length : Int)) = false:=decide_eq_false c4;clear c4;obtain rfl:=Option.some.inj H;go_wp2
    go_ret
    exact ⟨qq89,qq71⟩

end Go.Proofs.Ytnghncedinngoaa.PFnExactPutUp
