/- Contracts of functions that the law FnTents reaches, for its row: lines that the kit's printer wrote for this claim, set shorter by a program of this session (own.py), and what fell in Lean proved anew. Lean checks them. -/
import Derived.Test.YtnghncedinngoaaSFnTentsx0
import Derived.Test.YtnghncedinngoaaSFnTentsx8
namespace Go.Proofs.Ytnghncedinngoaa.PFnTents
open Go.RowKit Go.Proofs.YtnghncedinngoaaW.PrintWords Go.Proofs.YtnghncedinngoaaW.PrintLast Go.Proofs.YtnghncedinngoaaW.PrintMore
attribute [local go_sem] max2_int min2_int max_two min_two max_three min_three max_four min_four   -- for this text's walks alone
set_option linter.unusedVariables false
set_option linter.unusedSimpArgs false

abbrev m0_9 : Array Bool := #[Z,Z,Z,Z,Z,Z,Z,Z,Z,Z,Z,Z,Z,Z,Z,Z,Z,Z,Z,Z,Z,Z,Z,Z,Z,Z,Z,Z,Z,Z,Z,Z,Z,Z,Z,Z,Z,Z,Z,Z,Z,Z,Z,Z,Z,Z,Z,Z]
abbrev m1_9 : Array Bool := #[Y,Z,Z,Z,Z,Z,Z,Z,Z,Z,Z,Z,Z,Z,Z,Z,Z,Z,Z,Z,Z,Z,Z,Z,Z,Z,Z,Z,Z,Z,Z,Z,Z,Z,Z,Z,Z,Z,Z,Z,Z,Z,Z,Z,Z,Z,Z,Z]
abbrev m2_9 : Array Bool := #[Y,Y,Z,Z,Z,Z,Z,Z,Z,Z,Z,Z,Z,Z,Z,Z,Z,Z,Z,Z,Z,Z,Z,Z,Z,Z,Z,Z,Z,Z,Z,Z,Z,Z,Z,Z,Z,Z,Z,Z,Z,Z,Z,Z,Z,Z,Z,Z]
abbrev m3_9 : Array Bool := #[Y,Y,Y,Z,Z,Z,Z,Z,Z,Z,Z,Z,Z,Z,Z,Z,Z,Z,Z,Z,Z,Z,Z,Z,Z,Z,Z,Z,Z,Z,Z,Z,Z,Z,Z,Z,Z,Z,Z,Z,Z,Z,Z,Z,Z,Z,Z,Z]
abbrev m4_9 : Array Bool := #[Y,Y,Y,Y,Z,Z,Z,Z,Z,Z,Z,Z,Z,Z,Z,Z,Z,Z,Z,Z,Z,Z,Z,Z,Z,Z,Z,Z,Z,Z,Z,Z,Z,Z,Z,Z,Z,Z,Z,Z,Z,Z,Z,Z,Z,Z,Z,Z]
abbrev m5_9 : Array Bool := #[Y,Y,Y,Y,Y,Z,Z,Z,Z,Z,Z,Z,Z,Z,Z,Z,Z,Z,Z,Z,Z,Z,Z,Z,Z,Z,Z,Z,Z,Z,Z,Z,Z,Z,Z,Z,Z,Z,Z,Z,Z,Z,Z,Z,Z,Z,Z,Z]
abbrev m6_9 : Array Bool := #[Y,Y,Y,Y,Y,Y,Z,Z,Z,Z,Z,Z,Z,Z,Z,Z,Z,Z,Z,Z,Z,Z,Z,Z,Z,Z,Z,Z,Z,Z,Z,Z,Z,Z,Z,Z,Z,Z,Z,Z,Z,Z,Z,Z,Z,Z,Z,Z]
abbrev m7_9 : Array Bool := #[Y,Y,Y,Y,Y,Y,Y,Z,Z,Z,Z,Z,Z,Z,Z,Z,Z,Z,Z,Z,Z,Z,Z,Z,Z,Z,Z,Z,Z,Z,Z,Z,Z,Z,Z,Z,Z,Z,Z,Z,Z,Z,Z,Z,Z,Z,Z,Z]
abbrev m8_9 : Array Bool := #[Y,Y,Y,Y,Y,Y,Y,Y,Z,Z,Z,Z,Z,Z,Z,Z,Z,Z,Z,Z,Z,Z,Z,Z,Z,Z,Z,Z,Z,Z,Z,Z,Z,Z,Z,Z,Z,Z,Z,Z,Z,Z,Z,Z,Z,Z,Z,Z]
abbrev m9_9 : Array Bool := #[Y,Y,Y,Y,Y,Y,Y,Y,Y,Z,Z,Z,Z,Z,Z,Z,Z,Z,Z,Z,Z,Z,Z,Z,Z,Z,Z,Z,Z,Z,Z,Z,Z,Z,Z,Z,Z,Z,Z,Z,Z,Z,Z,Z,Z,Z,Z,Z]
abbrev m10_9 : Array Bool := #[Y,Y,Y,Y,Y,Y,Y,Y,Y,Y,Z,Z,Z,Z,Z,Z,Z,Z,Z,Z,Z,Z,Z,Z,Z,Z,Z,Z,Z,Z,Z,Z,Z,Z,Z,Z,Z,Z,Z,Z,Z,Z,Z,Z,Z,Z,Z,Z]
abbrev m11_9 : Array Bool := #[Y,Y,Y,Y,Y,Y,Y,Y,Y,Y,Y,Z,Z,Z,Z,Z,Z,Z,Z,Z,Z,Z,Z,Z,Z,Z,Z,Z,Z,Z,Z,Z,Z,Z,Z,Z,Z,Z,Z,Z,Z,Z,Z,Z,Z,Z,Z,Z]
abbrev m12_9 : Array Bool := #[Y,Y,Y,Y,Y,Y,Y,Y,Y,Y,Y,Y,Z,Z,Z,Z,Z,Z,Z,Z,Z,Z,Z,Z,Z,Z,Z,Z,Z,Z,Z,Z,Z,Z,Z,Z,Z,Z,Z,Z,Z,Z,Z,Z,Z,Z,Z,Z]
abbrev m13_9 : Array Bool := #[Y,Y,Y,Y,Y,Y,Y,Y,Y,Y,Y,Y,Y,Z,Z,Z,Z,Z,Z,Z,Z,Z,Z,Z,Z,Z,Z,Z,Z,Z,Z,Z,Z,Z,Z,Z,Z,Z,Z,Z,Z,Z,Z,Z,Z,Z,Z,Z]
abbrev m14_9 : Array Bool := #[Y,Y,Y,Y,Y,Y,Y,Y,Y,Y,Y,Y,Y,Y,Z,Z,Z,Z,Z,Z,Z,Z,Z,Z,Z,Z,Z,Z,Z,Z,Z,Z,Z,Z,Z,Z,Z,Z,Z,Z,Z,Z,Z,Z,Z,Z,Z,Z]
abbrev m15_9 : Array Bool := #[Y,Y,Y,Y,Y,Y,Y,Y,Y,Y,Y,Y,Y,Y,Y,Z,Z,Z,Z,Z,Z,Z,Z,Z,Z,Z,Z,Z,Z,Z,Z,Z,Z,Z,Z,Z,Z,Z,Z,Z,Z,Z,Z,Z,Z,Z,Z,Z]
abbrev m16_9 : Array Bool := #[Y,Y,Y,Y,Y,Y,Y,Y,Y,Y,Y,Y,Y,Y,Y,Y,Z,Z,Z,Z,Z,Z,Z,Z,Z,Z,Z,Z,Z,Z,Z,Z,Z,Z,Z,Z,Z,Z,Z,Z,Z,Z,Z,Z,Z,Z,Z,Z]
abbrev m17_9 : Array Bool := #[Y,Y,Y,Y,Y,Y,Y,Y,Y,Y,Y,Y,Y,Y,Y,Y,Y,Z,Z,Z,Z,Z,Z,Z,Z,Z,Z,Z,Z,Z,Z,Z,Z,Z,Z,Z,Z,Z,Z,Z,Z,Z,Z,Z,Z,Z,Z,Z]
abbrev m18_9 : Array Bool := #[Y,Y,Y,Y,Y,Y,Y,Y,Y,Y,Y,Y,Y,Y,Y,Y,Y,Y,Z,Z,Z,Z,Z,Z,Z,Z,Z,Z,Z,Z,Z,Z,Z,Z,Z,Z,Z,Z,Z,Z,Z,Z,Z,Z,Z,Z,Z,Z]
abbrev m19_9 : Array Bool := #[Y,Y,Y,Y,Y,Y,Y,Y,Y,Y,Y,Y,Y,Y,Y,Y,Y,Y,Y,Z,Z,Z,Z,Z,Z,Z,Z,Z,Z,Z,Z,Z,Z,Z,Z,Z,Z,Z,Z,Z,Z,Z,Z,Z,Z,Z,Z,Z]
abbrev m20_9 : Array Bool := #[Y,Y,Y,Y,Y,Y,Y,Y,Y,Y,Y,Y,Y,Y,Y,Y,Y,Y,Y,Y,Z,Z,Z,Z,Z,Z,Z,Z,Z,Z,Z,Z,Z,Z,Z,Z,Z,Z,Z,Z,Z,Z,Z,Z,Z,Z,Z,Z]
abbrev m21_9 : Array Bool := #[Y,Y,Y,Y,Y,Y,Y,Y,Y,Y,Y,Y,Y,Y,Y,Y,Y,Y,Y,Y,Y,Z,Z,Z,Z,Z,Z,Z,Z,Z,Z,Z,Z,Z,Z,Z,Z,Z,Z,Z,Z,Z,Z,Z,Z,Z,Z,Z]
abbrev m22_9 : Array Bool := #[Y,Y,Y,Y,Y,Y,Y,Y,Y,Y,Y,Y,Y,Y,Y,Y,Y,Y,Y,Y,Y,Z,Z,Y,Z,Z,Z,Z,Z,Z,Z,Z,Z,Z,Z,Z,Z,Z,Z,Z,Z,Z,Z,Z,Z,Z,Z,Z]
abbrev m23_9 : Array Bool := #[Y,Y,Y,Y,Y,Y,Y,Y,Y,Y,Y,Y,Y,Y,Y,Y,Y,Y,Y,Y,Y,Z,Z,Y,Y,Z,Z,Z,Z,Z,Z,Z,Z,Z,Z,Z,Z,Z,Z,Z,Z,Z,Z,Z,Z,Z,Z,Z]
abbrev m24_9 : Array Bool := #[Y,Y,Y,Y,Y,Y,Y,Y,Y,Y,Y,Y,Y,Y,Y,Y,Y,Y,Y,Y,Y,Z,Z,Y,Y,Y,Z,Z,Z,Z,Z,Z,Z,Z,Z,Z,Z,Z,Z,Z,Z,Z,Z,Z,Z,Z,Z,Z]
abbrev m25_9 : Array Bool := #[Y,Y,Y,Y,Y,Y,Y,Y,Y,Y,Y,Y,Y,Y,Y,Y,Y,Y,Y,Y,Y,Z,Z,Y,Y,Y,Y,Z,Z,Z,Z,Z,Z,Z,Z,Z,Z,Z,Z,Z,Z,Z,Z,Z,Z,Z,Z,Z]
abbrev m26_9 : Array Bool := #[Y,Y,Y,Y,Y,Y,Y,Y,Y,Y,Y,Y,Y,Y,Y,Y,Y,Y,Y,Y,Y,Y,Z,Y,Y,Y,Y,Z,Z,Z,Z,Z,Z,Z,Z,Z,Z,Z,Z,Z,Z,Z,Z,Z,Z,Z,Z,Z]
abbrev m27_9 : Array Bool := #[Y,Y,Y,Y,Y,Y,Y,Y,Y,Y,Y,Y,Y,Y,Y,Y,Y,Y,Y,Y,Y,Y,Y,Y,Y,Y,Y,Z,Z,Z,Z,Z,Z,Z,Z,Z,Z,Z,Z,Z,Z,Z,Z,Z,Z,Z,Z,Z]
abbrev m28_9 : Array Bool := #[Y,Y,Y,Y,Y,Y,Y,Y,Y,Y,Y,Y,Y,Y,Y,Y,Y,Y,Y,Y,Y,Y,Y,Y,Y,Y,Y,Y,Z,Z,Z,Z,Z,Z,Z,Z,Z,Z,Z,Z,Z,Z,Z,Z,Z,Z,Z,Z]
abbrev m29_9 : Array Bool := #[Y,Y,Y,Y,Y,Y,Y,Y,Y,Y,Y,Y,Y,Y,Y,Y,Y,Y,Y,Y,Y,Y,Y,Y,Y,Y,Y,Y,Y,Z,Z,Z,Z,Z,Z,Z,Z,Z,Z,Z,Z,Z,Z,Z,Z,Z,Z,Z]
abbrev m30_9 : Array Bool := #[Y,Y,Y,Y,Y,Y,Y,Y,Y,Y,Y,Y,Y,Y,Y,Y,Y,Y,Y,Y,Y,Y,Y,Y,Y,Y,Y,Y,Y,Y,Z,Z,Z,Z,Z,Z,Z,Z,Z,Z,Z,Z,Z,Z,Z,Z,Z,Z]
abbrev m31_9 : Array Bool := #[Y,Y,Y,Y,Y,Y,Y,Y,Y,Y,Y,Y,Y,Y,Y,Y,Y,Y,Y,Y,Y,Y,Y,Y,Y,Y,Y,Y,Y,Y,Y,Z,Z,Z,Z,Z,Z,Z,Z,Z,Z,Z,Z,Z,Z,Z,Z,Z]
abbrev m32_9 : Array Bool := #[Y,Y,Y,Y,Y,Y,Y,Y,Y,Y,Y,Y,Y,Y,Y,Y,Y,Y,Y,Y,Y,Y,Y,Y,Y,Y,Y,Y,Y,Y,Y,Y,Z,Z,Z,Z,Z,Z,Z,Z,Z,Z,Z,Z,Z,Z,Z,Z]
abbrev m33_9 : Array Bool := #[Y,Y,Y,Y,Y,Y,Y,Y,Y,Y,Y,Y,Y,Y,Y,Y,Y,Y,Y,Y,Y,Y,Y,Y,Y,Y,Y,Y,Y,Y,Y,Y,Y,Z,Z,Z,Z,Z,Z,Z,Z,Z,Z,Z,Z,Z,Z,Z]
abbrev m34_9 : Array Bool := #[Y,Y,Y,Y,Y,Y,Y,Y,Y,Y,Y,Y,Y,Y,Y,Y,Y,Y,Y,Y,Y,Y,Y,Y,Y,Y,Y,Y,Y,Y,Y,Y,Y,Y,Z,Z,Z,Z,Z,Z,Z,Z,Z,Z,Z,Z,Z,Z]
abbrev m35_9 : Array Bool := #[Y,Y,Y,Y,Y,Y,Y,Y,Y,Y,Y,Y,Y,Y,Y,Y,Y,Y,Y,Y,Y,Y,Y,Y,Y,Y,Y,Y,Y,Y,Y,Y,Y,Y,Y,Z,Z,Z,Z,Z,Z,Z,Z,Z,Z,Z,Z,Z]
abbrev m36_9 : Array Bool := #[Y,Y,Y,Y,Y,Y,Y,Y,Y,Y,Y,Y,Y,Y,Y,Y,Y,Y,Y,Y,Y,Y,Y,Y,Y,Y,Y,Y,Y,Y,Y,Y,Y,Y,Y,Y,Z,Z,Z,Z,Z,Z,Z,Z,Z,Z,Z,Z]
abbrev m37_9 : Array Bool := #[Y,Y,Y,Y,Y,Y,Y,Y,Y,Y,Y,Y,Y,Y,Y,Y,Y,Y,Y,Y,Y,Y,Y,Y,Y,Y,Y,Y,Y,Y,Y,Y,Y,Y,Y,Y,Y,Z,Z,Z,Z,Z,Z,Z,Z,Z,Z,Z]
abbrev m38_9 : Array Bool := #[Y,Y,Y,Y,Y,Y,Y,Y,Y,Y,Y,Y,Y,Y,Y,Y,Y,Y,Y,Y,Y,Y,Y,Y,Y,Y,Y,Y,Y,Y,Y,Y,Y,Y,Y,Y,Y,Y,Z,Z,Z,Z,Z,Z,Z,Z,Z,Z]
abbrev m39_9 : Array Bool := #[Y,Y,Y,Y,Y,Y,Y,Y,Y,Y,Y,Y,Y,Y,Y,Y,Y,Y,Y,Y,Y,Y,Y,Y,Y,Y,Y,Y,Y,Y,Y,Y,Y,Y,Y,Y,Y,Y,Y,Z,Z,Z,Z,Z,Z,Z,Z,Z]
abbrev m40_9 : Array Bool := #[Y,Y,Y,Y,Y,Y,Y,Y,Y,Y,Y,Y,Y,Y,Y,Y,Y,Y,Y,Y,Y,Y,Y,Y,Y,Y,Y,Y,Y,Y,Y,Y,Y,Y,Y,Y,Y,Y,Y,Y,Z,Z,Z,Z,Z,Z,Z,Z]
abbrev m41_9 : Array Bool := #[Y,Y,Y,Y,Y,Y,Y,Y,Y,Y,Y,Y,Y,Y,Y,Y,Y,Y,Y,Y,Y,Y,Y,Y,Y,Y,Y,Y,Y,Y,Y,Y,Y,Y,Y,Y,Y,Y,Y,Y,Y,Z,Z,Z,Z,Z,Z,Z]
abbrev m42_9 : Array Bool := #[Y,Y,Y,Y,Y,Y,Y,Y,Y,Y,Y,Y,Y,Y,Y,Y,Y,Y,Y,Y,Y,Y,Y,Y,Y,Y,Y,Y,Y,Y,Y,Y,Y,Y,Y,Y,Y,Y,Y,Y,Y,Y,Z,Z,Z,Z,Z,Z]
abbrev m43_9 : Array Bool := #[Y,Y,Y,Y,Y,Y,Y,Y,Y,Y,Y,Y,Y,Y,Y,Y,Y,Y,Y,Y,Y,Y,Y,Y,Y,Y,Y,Y,Y,Y,Y,Y,Y,Y,Y,Y,Y,Y,Y,Y,Y,Y,Y,Z,Z,Z,Z,Z]
abbrev m44_9 : Array Bool := #[Y,Y,Y,Y,Y,Y,Y,Y,Y,Y,Y,Y,Y,Y,Y,Y,Y,Y,Y,Y,Y,Y,Y,Y,Y,Y,Y,Y,Y,Y,Y,Y,Y,Y,Y,Y,Y,Y,Y,Y,Y,Y,Y,Y,Z,Z,Z,Z]
abbrev m45_9 : Array Bool := #[Y,Y,Y,Y,Y,Y,Y,Y,Y,Y,Y,Y,Y,Y,Y,Y,Y,Y,Y,Y,Y,Y,Y,Y,Y,Y,Y,Y,Y,Y,Y,Y,Y,Y,Y,Y,Y,Y,Y,Y,Y,Y,Y,Y,Y,Z,Z,Z]
abbrev m46_9 : Array Bool := #[Y,Y,Y,Y,Y,Y,Y,Y,Y,Y,Y,Y,Y,Y,Y,Y,Y,Y,Y,Y,Y,Y,Y,Y,Y,Y,Y,Y,Y,Y,Y,Y,Y,Y,Y,Y,Y,Y,Y,Y,Y,Y,Y,Y,Y,Y,Z,Z]
abbrev m47_9 : Array Bool := #[Y,Y,Y,Y,Y,Y,Y,Y,Y,Y,Y,Y,Y,Y,Y,Y,Y,Y,Y,Y,Y,Y,Y,Y,Y,Y,Y,Y,Y,Y,Y,Y,Y,Y,Y,Y,Y,Y,Y,Y,Y,Y,Y,Y,Y,Y,Y,Z]
abbrev m48_9 : Array Bool := #[Y,Y,Y,Y,Y,Y,Y,Y,Y,Y,Y,Y,Y,Y,Y,Y,Y,Y,Y,Y,Y,Y,Y,Y,Y,Y,Y,Y,Y,Y,Y,Y,Y,Y,Y,Y,Y,Y,Y,Y,Y,Y,Y,Y,Y,Y,Y,Y]
abbrev m49_9 : Array Bool := #[Y,Y,Y,Y,Y,Y,Y,Y,Y,Y,Y,Y,Y,Y,Y,Y,Y,Y,Y,Y,Y,Y,Z,Z,Z,Z,Z,Z,Z,Z,Z,Z,Z,Z,Z,Z,Z,Z,Z,Z,Z,Z,Z,Z,Z,Z,Z,Z]
abbrev m50_9 : Array Bool := #[Y,Y,Y,Y,Y,Y,Y,Y,Y,Y,Y,Y,Y,Y,Y,Y,Y,Y,Y,Y,Y,Y,Y,Z,Z,Z,Z,Z,Z,Z,Z,Z,Z,Z,Z,Z,Z,Z,Z,Z,Z,Z,Z,Z,Z,Z,Z,Z]
abbrev m51_9 : Array Bool := #[Y,Y,Y,Y,Y,Y,Y,Y,Y,Y,Y,Y,Y,Y,Y,Y,Y,Y,Y,Y,Y,Y,Y,Y,Z,Z,Z,Z,Z,Z,Z,Z,Z,Z,Z,Z,Z,Z,Z,Z,Z,Z,Z,Z,Z,Z,Z,Z]
abbrev m52_9 : Array Bool := #[Y,Y,Y,Y,Y,Y,Y,Y,Y,Y,Y,Y,Y,Y,Y,Y,Y,Y,Y,Y,Y,Y,Y,Y,Y,Z,Z,Z,Z,Z,Z,Z,Z,Z,Z,Z,Z,Z,Z,Z,Z,Z,Z,Z,Z,Z,Z,Z]
abbrev m53_9 : Array Bool := #[Y,Y,Y,Y,Y,Y,Y,Y,Y,Y,Y,Y,Y,Y,Y,Y,Y,Y,Y,Y,Y,Y,Y,Y,Y,Y,Z,Z,Z,Z,Z,Z,Z,Z,Z,Z,Z,Z,Z,Z,Z,Z,Z,Z,Z,Z,Z,Z]
/-! ### spec_AreTents: function 28 -/
mutual
def spec_AreTents.l0 : Nat → List (S45) → List Int → Int → Option (Bool)
 | 0,_,_,_ => none
 | k + 1,x0,x3,x4 => if x4 < (x0.length : Int) then (if 0 ≤ x4 then ((spec_l1In.f ((rd_T45 x0 x4).f0) 1 99).bind fun t227 => (if t227 = true then ((spec_l1In.f ((rd_T45 x0 x4).f1) 1 6).bind fun t229 => (if t229 = true then (if (((rd_T45 x0 x4).f2).length : Int) > ((rd_T45 x0 x4).f1) then (spec_AreTents.j1 k x0 x3 x4 true) else (if x4 > 0 then (if 0 ≤ (wrap64 (x4 - 1)) then (if (wrap64 (x4 - 1)) < (x0.length : Int) then (spec_AreTents.j1 k x0 x3 x4 (decide (((rd_T45 x0 (wrap64 (x4 - 1))).f0) ≥ ((rd_T45 x0 x4).f0)))) else (none)) else (none)) else (spec_AreTents.j1 k x0 x3 x4 false))) else (spec_AreTents.j1 k x0 x3 x4 true))) else (spec_AreTents.j1 k x0 x3 x4 true))) else (none)) else (some (decide ((x0.length : Int) ≤ 8)))
def spec_AreTents.j1 : Nat → List (S45) → List Int → Int → Bool → Option (Bool)
 | 0,_,_,_,_ => none
 | k + 1,x0,x3,x4,x60 => if x60 = true then (some false) else (spec_AreTents.l1 k x0 x3 x4 0)
def spec_AreTents.l1 : Nat → List (S45) → List Int → Int → Int → Option (Bool)
 | 0,_,_,_,_ => none
 | k + 1,x0,x3,x4,x5 => if 0 ≤ x4 then (if x4 < (x0.length : Int) then (if x5 < (((rd_T45 x0 x4).f2).length : Int) then (if 0 ≤ x5 then ((spec_l14Has.f k x3 (rd ((rd_T45 x0 x4).f2) x5)).bind fun t237 => (if t237 = true then (some false) else (if x3.length < 17592186044416 then (spec_AreTents.l1 k x0 (x3 ++ [rd ((rd_T45 x0 x4).f2) x5]) x4 (wrap64 (x5 + 1))) else (none)))) else (none)) else (spec_AreTents.l0 k x0 x3 (wrap64 (x4 + 1)))) else (none)) else (none)
end
def spec_AreTents.f (k : Nat) (l0 : List (S45)) : Option (Bool) := spec_AreTents.l0 k l0 (([] : List Int)) 0
theorem spec_AreTents.mono_l : ∀ k, (∀ y0 y1 y2, LeO (spec_AreTents.l0 k y0 y1 y2) (spec_AreTents.l0 (k + 1) y0 y1 y2)) ∧ (∀ y0 y1 y2 y3, LeO (spec_AreTents.j1 k y0 y1 y2 y3) (spec_AreTents.j1 (k + 1) y0 y1 y2 y3)) ∧ (∀ y0 y1 y2 y3, LeO (spec_AreTents.l1 k y0 y1 y2 y3) (spec_AreTents.l1 (k + 1) y0 y1 y2 y3))
 | 0 => ⟨fun _ _ _ r h => by simp [spec_AreTents.l0] at h,fun _ _ _ _ r h => by simp [spec_AreTents.j1] at h,fun _ _ _ _ r h => by simp [spec_AreTents.l1] at h⟩
 | k + 1 => by
  obtain ⟨ih0,ih1,ih2⟩:=spec_AreTents.mono_l k
  refine ⟨?_,?_,?_⟩
  ·intro y0 y1 y2
   unfold spec_AreTents.l0
   repeat' first
   | (with_reducible exact ih0 _ _ _)
   | (with_reducible exact ih1 _ _ _ _)
   | (with_reducible exact ih2 _ _ _ _)
   | (with_reducible exact spec_l14Has.mono _ _ _)
   | (with_reducible exact LeO.refl _)
   | (with_reducible exact LeO.none _)
   | (with_reducible refine LeO.ite ?_ ?_)
   | (with_reducible refine LeO.bind ?_ (fun _ => ?_))
   | exact ih0 _ _ _
   | exact ih1 _ _ _ _
   | exact ih2 _ _ _ _
   | exact spec_l14Has.mono _ _ _
   | exact LeO.none _
   | refine LeO.ite ?_ ?_
   | refine LeO.bind ?_ (fun _ => ?_)
  ·intro y0 y1 y2 y3
   unfold spec_AreTents.j1
   repeat' first
   | (with_reducible exact ih0 _ _ _)
   | (with_reducible exact ih1 _ _ _ _)
   | (with_reducible exact ih2 _ _ _ _)
   | (with_reducible exact spec_l14Has.mono _ _ _)
   | (with_reducible exact LeO.refl _)
   | (with_reducible exact LeO.none _)
   | (with_reducible refine LeO.ite ?_ ?_)
   | (with_reducible refine LeO.bind ?_ (fun _ => ?_))
   | exact ih0 _ _ _
   | exact ih1 _ _ _ _
   | exact ih2 _ _ _ _
   | exact spec_l14Has.mono _ _ _
   | exact LeO.none _
   | refine LeO.ite ?_ ?_
   | refine LeO.bind ?_ (fun _ => ?_)
  ·intro y0 y1 y2 y3
   unfold spec_AreTents.l1
   repeat' first
   | (with_reducible exact ih0 _ _ _)
   | (with_reducible exact ih1 _ _ _ _)
   | (with_reducible exact ih2 _ _ _ _)
   | (with_reducible exact spec_l14Has.mono _ _ _)
   | (with_reducible exact LeO.refl _)
   | (with_reducible exact LeO.none _)
   | (with_reducible refine LeO.ite ?_ ?_)
   | (with_reducible refine LeO.bind ?_ (fun _ => ?_))
   | exact ih0 _ _ _
   | exact ih1 _ _ _ _
   | exact ih2 _ _ _ _
   | exact spec_l14Has.mono _ _ _
   | exact LeO.none _
   | refine LeO.ite ?_ ?_
   | refine LeO.bind ?_ (fun _ => ?_)
theorem spec_AreTents.mono : ∀ a0 k, LeO (spec_AreTents.f k a0) (spec_AreTents.f (k + 1) a0) := by
 intro a0 k
 obtain ⟨ih0,ih1,ih2⟩:=spec_AreTents.mono_l k
 unfold spec_AreTents.f
 repeat' first
   | (with_reducible exact ih0 _ _ _)
   | (with_reducible exact ih1 _ _ _ _)
   | (with_reducible exact ih2 _ _ _ _)
   | (with_reducible exact spec_l14Has.mono _ _ _)
   | (with_reducible exact LeO.refl _)
   | (with_reducible exact LeO.none _)
   | (with_reducible refine LeO.ite ?_ ?_)
   | (with_reducible refine LeO.bind ?_ (fun _ => ?_))
   | exact ih0 _ _ _
   | exact ih1 _ _ _ _
   | exact ih2 _ _ _ _
   | exact spec_l14Has.mono _ _ _
   | exact LeO.none _
   | refine LeO.ite ?_ ?_
   | refine LeO.bind ?_ (fun _ => ?_)
def spec_AreTents.T5 : Bool × List (List Nat × List Nat) := (true, [([], []), ([], []), ([0, 1], [0, 1]), ([2], [2]), ([3], [3]), ([4], [4]), ([5], [5]), ([6, 5], [6]), ([7], [7]), ([7], [7]), ([8, 9, 7], [7, 8, 9]), ([10, 7], [7, 10]), ([11, 7], [7, 11]), ([12, 7, 7], [7, 12]), ([13, 7], [7, 13]), ([7, 14], [7, 14]), ([15, 13], [15]), ([16], [16]), ([16], [16]), ([17, 18, 16], [16, 17, 18]), ([19, 16], [16, 19]), ([20, 16], [16, 20]), ([21, 16], [16, 21]), ([16], [16]), ([16], [16]), ([23, 24, 16], [16, 23, 24]), ([25, 16], [16, 25]), ([26, 16], [16, 26]), ([22, 27, 16], [16, 22, 27]), ([16, 28], [16, 28]), ([29, 16], [29]), ([30], [30]), ([31, 30], [30, 31]), ([32, 30, 30], [30, 32]), ([33], [33]), ([33], [33]), ([35, 33], [33, 35]), ([34, 36, 33], [33, 34, 36]), ([37, 33], [33, 37]), ([38, 33], [33, 38]), ([33], [33]), ([33], [33]), ([40, 41, 33], [33, 40, 41]), ([42, 33], [33, 42]), ([43, 33], [33, 43]), ([39, 44, 33], [33, 39, 44]), ([33, 45, 30], [30, 33, 45]), ([30, 46], [30, 46])])
def spec_AreTents.B5 : List Nat := [0, 0, 3, 7, 15, 31, 63, 127, 255, 255, 1023, 2047, 4095, 8191, 16383, 32767, 65535, 131071, 131071, 524287, 1048575, 2097151, 4194303, 131071, 131071, 25296895, 58851327, 125960191, 268435455, 536870911, 1073741823, 2147483647, 4294967295, 8589934591, 17179869183, 17179869183, 51539607551, 137438953471, 274877906943, 549755813887, 17179869183, 17179869183, 3315714752511, 7713761263615, 16509854285823, 35184372088831, 70368744177663, 140737488355327]
theorem spec_AreTents.tab5 : rtab .any (opsOf Try.f28 5) = spec_AreTents.T5 := by kernel_rfl
theorem spec_AreTents.bits5 : waitsOk spec_AreTents.T5.2 spec_AreTents.B5 = true := by kernel_rfl
set_option maxHeartbeats 8000000 in
set_option maxRecDepth 100000 in
theorem spec_AreTents.calls (k : Nat) (A0 : Option Addr) (c0 : Nat) (l0 : List (S45)) (r : Bool) (w : World) (hr0 : Kd.C k45 w A0 l0.length l0) (hc0 : l0.length ≤ c0) (h : spec_AreTents.f k l0 = some r) :
  Calls Try.prog 28 #[.slice A0 l0.length c0] w fun e w' => e = .returned (.bool r) ∧ Below w.heap.size w w':=by
 have HR0:=am hr0;have HC0:=am hc0;clear hr0 hc0;have HB:=am qq135;have H : (spec_AreTents.l0 k l0 (([] : List Int)) 0) = some r:=h;clear h;obtain ⟨y223,hy223⟩ : ∃ y_ : List Int,y_ = (([] : List Int)):=⟨_,rfl⟩
 replace H : (spec_AreTents.l0 k l0 y223 0) = some r:=by first | (rw [hy223];with_reducible exact H) | (have H2_:=(Option.bind_some _ _).symm.trans H;rw [hy223];with_reducible exact H2_) | (have H2_:=(Option.bind_some _ _).symm.trans H;with_reducible exact H2_) | with_reducible exact H | (rw [hy223];exact H) | exact H
 have Ny223:=am hy223;clear hy223;have H':=am H;clear H
 go_enter Try.func28,Try.ntmps28
 go_wp2_with (first | ((with_reducible refine gate_dst (N:=6) rfl ?_);(try (refine gate_guard (by rfl) ?_;dsimp only));refine Kd.R_lit (Kd.int .i64) _ 3 ?hg (N:=6) ?hd (xs:=([] : List Int)) (inner:=[]) (ok:=fun _ => True) (okp:=fun _ => True) ?hr ?hp (fun _ hk => hk) trivial (Below.refl _ _) (Nat.le_refl _) (by simp) ?_;(case hd => rfl);(case hg => rfl);(case hr => exact qq96);(case hp => exact qq106);intro v224 w2 ho3 hb hg_ hnew_;clear hg_ hnew_;(first | rw [← Ny223.out] at ho3 | (simp only [Int.reduceToNat] at ho3;rw [← Ny223.out] at ho3));have HO225:=am (Kd.R_lower ho3 (below_size qq73));replace HB:=am qq138;clear hb ho3))
 go_loopg [3,4] k (fun kq v3 v4 w' => ∃ (x3_1 : List Int) (x4_1 : Int),v4 = .int .i64 x4_1 ∧ Aside0 (spec_AreTents.l0 kq l0 x3_1 x4_1 = some r) ∧ Aside0 (kq ≤ k) ∧ Aside0 (Kd.R (Kd.int .i64) 3 w' w.heap.size (fun _ => True) v3 x3_1) ∧ Aside0 (Below w.heap.size w w'))
 case atStart => exact ⟨(y223),(0),qq95,H',⟨Nat.le_refl _⟩,⟨by (with_reducible repeat (first | apply kA | apply kN | apply kD));exact HO225.out⟩,⟨qq73⟩⟩
 case round =>
  clear H'
  try clear c2
  try clear p2
  obtain ⟨x3_1,x4_1,rfl,HA,HK1,HO_3,HB⟩:=hrel
  cases gk with
  | zero => exact absurd HA.out (by simp [spec_AreTents.l0])
  | succ k1 =>
   have H:=HA.out;clear HA;simp only [spec_AreTents.l0] at H
   by_cases c4 : x4_1 < (l0.length : Int)
   ·rw [if_pos c4] at H;have c4b0 : decide (x4_1 < (l0.length : Int)) = true:=decide_eq_true c4;clear c4;have HC5:=am H;clear H
    go_upto_region 5 with (fail)
    go_cut [60] (fun v60 wc => ∃ (kq : Nat) (x60_4 : Bool),v60 = .bool x60_4 ∧ Aside0 (spec_AreTents.j1 kq l0 x3_1 x4_1 x60_4 = some r) ∧ Aside0 (kq ≤ k1) ∧ Aside0 (Kd.R (Kd.int .i64) 3 wc w.heap.size (fun _ => True) u3 x3_1) ∧ Aside0 (Below w.heap.size w wc))
    case first =>
     have H:=HC5.out;clear HC5
     by_cases c6 : 0 ≤ x4_1
     ·rw [if_pos c6] at H;have c6b0 : decide (0 ≤ x4_1) = true:=decide_eq_true c6;clear c6;(first | rw [c6b0] | (simp only [i64_w,i32_w];rw [c6b0]) | skip);replace H:=bS.mp H;obtain ⟨t227,A70,H⟩:=H;replace H : (if t227 = true then ((spec_l1In.f ((rd_T45 l0 x4_1).f1) 1 6).bind fun t229 => (if t229 = true then (if (((rd_T45 l0 x4_1).f2).length : Int) > ((rd_T45 l0 x4_1).f1) then (spec_AreTents.j1 k1 l0 x3_1 x4_1 true) else (if x4_1 > 0 then (if 0 ≤ (wrap64 (x4_1 - 1)) then (if (wrap64 (x4_1 - 1)) < (l0.length : Int) then (spec_AreTents.j1 k1 l0 x3_1 x4_1 (decide (((rd_T45 l0 (wrap64 (x4_1 - 1))).f0) ≥ ((rd_T45 l0 x4_1).f0)))) else (none)) else (none)) else (spec_AreTents.j1 k1 l0 x3_1 x4_1 false))) else (spec_AreTents.j1 k1 l0 x3_1 x4_1 true))) else (spec_AreTents.j1 k1 l0 x3_1 x4_1 true)) = some r:=H;have A7:=am A70;clear A70
      by_cases c8 : t227 = true
      ·subst c8;have H1 : ((spec_l1In.f ((rd_T45 l0 x4_1).f1) 1 6).bind fun t229 => (if t229 = true then (if (((rd_T45 l0 x4_1).f2).length : Int) > ((rd_T45 l0 x4_1).f1) then (spec_AreTents.j1 k1 l0 x3_1 x4_1 true) else (if x4_1 > 0 then (if 0 ≤ (wrap64 (x4_1 - 1)) then (if (wrap64 (x4_1 - 1)) < (l0.length : Int) then (spec_AreTents.j1 k1 l0 x3_1 x4_1 (decide (((rd_T45 l0 (wrap64 (x4_1 - 1))).f0) ≥ ((rd_T45 l0 x4_1).f0)))) else (none)) else (none)) else (spec_AreTents.j1 k1 l0 x3_1 x4_1 false))) else (spec_AreTents.j1 k1 l0 x3_1 x4_1 true))) = some r:=by rw [if_pos rfl] at H;exact H
       clear H;have H:=H1;clear H1;replace H:=bS.mp H;obtain ⟨t229,A90,H⟩:=H;replace H : (if t229 = true then (if (((rd_T45 l0 x4_1).f2).length : Int) > ((rd_T45 l0 x4_1).f1) then (spec_AreTents.j1 k1 l0 x3_1 x4_1 true) else (if x4_1 > 0 then (if 0 ≤ (wrap64 (x4_1 - 1)) then (if (wrap64 (x4_1 - 1)) < (l0.length : Int) then (spec_AreTents.j1 k1 l0 x3_1 x4_1 (decide (((rd_T45 l0 (wrap64 (x4_1 - 1))).f0) ≥ ((rd_T45 l0 x4_1).f0)))) else (none)) else (none)) else (spec_AreTents.j1 k1 l0 x3_1 x4_1 false))) else (spec_AreTents.j1 k1 l0 x3_1 x4_1 true)) = some r:=H;have A9:=am A90;clear A90
       by_cases c10 : t229 = true
       ·subst c10;have H1 : (if (((rd_T45 l0 x4_1).f2).length : Int) > ((rd_T45 l0 x4_1).f1) then (spec_AreTents.j1 k1 l0 x3_1 x4_1 true) else (if x4_1 > 0 then (if 0 ≤ (wrap64 (x4_1 - 1)) then (if (wrap64 (x4_1 - 1)) < (l0.length : Int) then (spec_AreTents.j1 k1 l0 x3_1 x4_1 (decide (((rd_T45 l0 (wrap64 (x4_1 - 1))).f0) ≥ ((rd_T45 l0 x4_1).f0)))) else (none)) else (none)) else (spec_AreTents.j1 k1 l0 x3_1 x4_1 false))) = some r:=by rw [if_pos rfl] at H;exact H
        clear H;have H:=H1;clear H1
        by_cases c11 : (((rd_T45 l0 x4_1).f2).length : Int) > ((rd_T45 l0 x4_1).f1)
        ·rw [if_pos c11] at H;have c11b0 : decide (((rd_T45 l0 x4_1).f1) < (((rd_T45 l0 x4_1).f2).length : Int)) = true:=decide_eq_true c11;clear c11;have H':=am H;clear H
         try go_wp2
         replace HO_3:=am qq139;replace HB:=am qq141;have p226 : 0 ≤ (x4_1 : Int):=odt qq94;have q226 : x4_1 < (l0.length : Int):=odt qq94;obtain ⟨ad226,A226_2,c226_2,e226,hx226_0,hx226_1,hx226_2,hl226_2,hi226_2⟩:=at_T45 HR0.out x4_1 p226 q226;have hw226_2:=hx226_2;have hw226_1:=hx226_1;have hw226_0:=hx226_0
         cases e226
         replace hx226_0:=(ct HB.out hx226_0 :)
         replace hx226_1:=(ct HB.out hx226_1 :)
         replace hx226_2:=(ct HB.out hx226_2 :)
         have HR226_2:=am hi226_2;have HC226_2:=am hl226_2;clear hi226_2 hl226_2;replace p226:=eq_true p226;replace q226:=eq_true q226;have p228 : 0 ≤ (x4_1 : Int):=odt qq94;have q228 : x4_1 < (l0.length : Int):=odt qq94;obtain ⟨ad228,A228_2,c228_2,e228,hx228_0,hx228_1,hx228_2,hl228_2,hi228_2⟩:=at_T45 HR0.out x4_1 p228 q228;have hw228_2:=hx228_2;have hw228_1:=hx228_1;have hw228_0:=hx228_0;obtain rfl : ad226 = ad228:=(by injection e228)
         replace hx228_0:=(ct HB.out hx228_0 :)
         replace hx228_1:=(ct HB.out hx228_1 :)
         replace hx228_2:=(ct HB.out hx228_2 :)
         have HR228_2:=am hi228_2;have HC228_2:=am hl228_2;clear hi228_2 hl228_2;replace p228:=eq_true p228;replace q228:=eq_true q228;have ea_:=Option.some.inj (hx226_2.symm.trans hx228_2)
         injection ea_ with ea_ en_ ec_
         subst ea_;subst ec_;clear en_;have p230 : 0 ≤ (x4_1 : Int):=odt qq94;have q230 : x4_1 < (l0.length : Int):=odt qq94;obtain ⟨ad230,A230_2,c230_2,e230,hx230_0,hx230_1,hx230_2,hl230_2,hi230_2⟩:=at_T45 HR0.out x4_1 p230 q230;have hw230_2:=hx230_2;have hw230_1:=hx230_1;have hw230_0:=hx230_0;obtain rfl : ad226 = ad230:=(by injection e230)
         replace hx230_0:=(ct HB.out hx230_0 :)
         replace hx230_1:=(ct HB.out hx230_1 :)
         replace hx230_2:=(ct HB.out hx230_2 :)
         have HR230_2:=am hi230_2;have HC230_2:=am hl230_2;clear hi230_2 hl230_2;replace p230:=eq_true p230;replace q230:=eq_true q230;have ea_:=Option.some.inj (hx226_2.symm.trans hx230_2)
         injection ea_ with ea_ en_ ec_
         subst ea_;subst ec_;clear en_;have p231 : 0 ≤ (x4_1 : Int):=odt qq94;have q231 : x4_1 < (l0.length : Int):=odt qq94;obtain ⟨ad231,A231_2,c231_2,e231,hx231_0,hx231_1,hx231_2,hl231_2,hi231_2⟩:=at_T45 HR0.out x4_1 p231 q231;have hw231_2:=hx231_2;have hw231_1:=hx231_1;have hw231_0:=hx231_0;obtain rfl : ad226 = ad231:=(by injection e231)
         replace hx231_0:=(ct HB.out hx231_0 :)
         replace hx231_1:=(ct HB.out hx231_1 :)
         replace hx231_2:=(ct HB.out hx231_2 :)
         have HR231_2:=am hi231_2;have HC231_2:=am hl231_2;clear hi231_2 hl231_2;replace p231:=eq_true p231;replace q231:=eq_true q231;have ea_:=Option.some.inj (hx226_2.symm.trans hx231_2)
         injection ea_ with ea_ en_ ec_
         subst ea_;subst ec_;clear en_;refine start_ (n:=48) (S:=fun w' => w'.cell? (ad226.add ((x4_1).toNat * 3)) = some (.int .i64 ((rd_T45 l0 x4_1).f0)) ∧ w'.cell? ⟨(ad226.add ((x4_1).toNat * 3)).block,(ad226.add ((x4_1).toNat * 3)).off + 1,none⟩ = some (.int .i64 ((rd_T45 l0 x4_1).f1)) ∧ w'.cell? ⟨(ad226.add ((x4_1).toNat * 3)).block,(ad226.add ((x4_1).toNat * 3)).off + 2,none⟩ = some (.slice A226_2 ((rd_T45 l0 x4_1).f2).length c226_2) ∧ w'.cell? (ad226.add ((x4_1).toNat * 3)) = some (.int .i64 ((rd_T45 l0 x4_1).f0)) ∧ w'.cell? ⟨(ad226.add ((x4_1).toNat * 3)).block,(ad226.add ((x4_1).toNat * 3)).off + 1,none⟩ = some (.int .i64 ((rd_T45 l0 x4_1).f1)) ∧ w'.cell? ⟨(ad226.add ((x4_1).toNat * 3)).block,(ad226.add ((x4_1).toNat * 3)).off + 2,none⟩ = some (.slice A226_2 ((rd_T45 l0 x4_1).f2).length c226_2) ∧ w'.cell? (ad226.add ((x4_1).toNat * 3)) = some (.int .i64 ((rd_T45 l0 x4_1).f0)) ∧ w'.cell? ⟨(ad226.add ((x4_1).toNat * 3)).block,(ad226.add ((x4_1).toNat * 3)).off + 1,none⟩ = some (.int .i64 ((rd_T45 l0 x4_1).f1)) ∧ w'.cell? ⟨(ad226.add ((x4_1).toNat * 3)).block,(ad226.add ((x4_1).toNat * 3)).off + 2,none⟩ = some (.slice A226_2 ((rd_T45 l0 x4_1).f2).length c226_2) ∧ w'.cell? (ad226.add ((x4_1).toNat * 3)) = some (.int .i64 ((rd_T45 l0 x4_1).f0)) ∧ w'.cell? ⟨(ad226.add ((x4_1).toNat * 3)).block,(ad226.add ((x4_1).toNat * 3)).off + 1,none⟩ = some (.int .i64 ((rd_T45 l0 x4_1).f1)) ∧ w'.cell? ⟨(ad226.add ((x4_1).toNat * 3)).block,(ad226.add ((x4_1).toNat * 3)).off + 2,none⟩ = some (.slice A226_2 ((rd_T45 l0 x4_1).f2).length c226_2)) (ds:=[]) m0_9 (by kernel_rfl) rfl rfl ⟨(ct HB.out hw226_0 :),(ct HB.out hw226_1 :),(ct HB.out hw226_2 :),(ct HB.out hw228_0 :),(ct HB.out hw228_1 :),(ct HB.out hw228_2 :),(ct HB.out hw230_0 :),(ct HB.out hw230_1 :),(ct HB.out hw230_2 :),(ct HB.out hw231_0 :),(ct HB.out hw231_1 :),(ct HB.out hw231_2 :)⟩ (fun hHeld => ?_);refine with_tabW spec_AreTents.tab5 spec_AreTents.bits5 (fun HT_ HW_ => ?_)
         generalize wr.drew = w12 at HO_3 HB HR226_2 HR228_2 HR230_2 HR231_2 hx226_0 hx226_1 hx226_2 hx228_0 hx228_1 hx228_2 hx230_0 hx230_1 hx230_2 hx231_0 hx231_1 hx231_2 hHeld ⊢
         refine pV (i:=0) (N:=some 13) m1_9 rfl rfl qT ?_
         refine pV (i:=1) (N:=some 14) m2_9 rfl rfl qT ?_
         refine pV (i:=2) (N:=some 15) m3_9 rfl rfl qT ?_
         refine pV (i:=3) (N:=some 16) m4_9 rfl rfl qT ?_
         refine take_ (i:=4) (N:=some 17) (v:=?_) (a':=?_) m5_9 rfl rfl (take_ofW HT_.out HW_.out (by kernel_rfl)) (fun _ _ _ h => h) (Or.inl ⟨by rfl,?_⟩) hHeld ?_ ?_;rotate_left
         ·rintro w' ⟨s0,s1,s2,s3,s4,s5,s6,s7,s8,s9,s10,s11⟩
          go_simp;with_reducible rfl
         rotate_left
         ·simp only [Act.put,sA,s0,s1,i64_w,i32_w];rfl
         refine one_ (i:=5) (N:=some 18) m6_9 rfl rfl (one_of HT_.out (by kernel_rfl)) (by decide) (fun K hK => ?_);refine goes_ Try.func47 (by kernel_rfl) rfl #[.int .i64 ((rd_T45 l0 x4_1).f0),.int .i64 1,.int .i64 99] (by rfl) rfl rfl qq50 ?_;with_reducible refine (spec_l1In.calls ((rd_T45 l0 x4_1).f0) 1 99 true _ A7.out).mono ?_
         rintro e w' ⟨rfl,⟨nd,rfl⟩⟩
         refine ⟨_,rfl,?_⟩;refine hK.out _ _ ⟨(ct HB.out hw226_0 :),(ct HB.out hw226_1 :),(ct HB.out hw226_2 :),(ct HB.out hw228_0 :),(ct HB.out hw228_1 :),(ct HB.out hw228_2 :),(ct HB.out hw230_0 :),(ct HB.out hw230_1 :),(ct HB.out hw230_2 :),(ct HB.out hw231_0 :),(ct HB.out hw231_1 :),(ct HB.out hw231_2 :)⟩ (fun hHeld => ?_);clear hK K;refine norm_ (a':=?_) ?_ ?_;rotate_left
         ·show Act.put _ (some 18) _ = _
          simp only [Act.put,sA,s0,s1,i64_w,i32_w];rfl
         refine pV (i:=6) (N:=some 19) m7_9 rfl rfl qT ?_
         refine pV (i:=7) (N:=some 20) m8_9 rfl rfl qT ?_
         refine pV (i:=8) (N:=some 21) m9_9 rfl rfl qT ?_
         refine pV (i:=9) (N:=some 22) m10_9 rfl rfl qT ?_
         refine pV (i:=10) (N:=some 23) m11_9 rfl rfl qT ?_
         refine pV (i:=11) (N:=some 24) m12_9 rfl rfl qT ?_
         refine take_ (i:=12) (N:=some 25) (v:=?_) (a':=?_) m13_9 rfl rfl (take_ofW HT_.out HW_.out (by kernel_rfl)) (fun _ _ _ h => h) (Or.inl ⟨by rfl,?_⟩) hHeld ?_ ?_;rotate_left
         ·rintro w' ⟨s0,s1,s2,s3,s4,s5,s6,s7,s8,s9,s10,s11⟩
          go_simp;with_reducible rfl
         rotate_left
         ·simp only [Act.put,sA,s0,s1,i64_w,i32_w];rfl
         refine one_ (i:=13) (N:=some 26) m14_9 rfl rfl (one_of HT_.out (by kernel_rfl)) (by decide) (fun K hK => ?_);refine goes_ Try.func47 (by kernel_rfl) rfl #[.int .i64 ((rd_T45 l0 x4_1).f1),.int .i64 1,.int .i64 6] (by rfl) rfl rfl qq50 ?_;with_reducible refine (spec_l1In.calls ((rd_T45 l0 x4_1).f1) 1 6 true _ A9.out).mono ?_
         rintro e w' ⟨rfl,⟨nd,rfl⟩⟩
         refine ⟨_,rfl,?_⟩;refine hK.out _ _ ⟨(ct HB.out hw226_0 :),(ct HB.out hw226_1 :),(ct HB.out hw226_2 :),(ct HB.out hw228_0 :),(ct HB.out hw228_1 :),(ct HB.out hw228_2 :),(ct HB.out hw230_0 :),(ct HB.out hw230_1 :),(ct HB.out hw230_2 :),(ct HB.out hw231_0 :),(ct HB.out hw231_1 :),(ct HB.out hw231_2 :)⟩ (fun hHeld => ?_);clear hK K;refine norm_ (a':=?_) ?_ ?_;rotate_left
         ·show Act.put _ (some 26) _ = _
          simp only [Act.put,sA,s0,s1,i64_w,i32_w];rfl
         refine pV (i:=14) (N:=some 27) m15_9 rfl rfl qT ?_
         refine pV (i:=15) (N:=some 28) m16_9 rfl rfl qT ?_
         refine pV (i:=16) (N:=some 29) m17_9 rfl rfl qT ?_
         refine pV (i:=17) (N:=some 30) m18_9 rfl rfl qT ?_
         refine pV (i:=18) (N:=some 31) m19_9 rfl rfl qT ?_
         refine pV (i:=19) (N:=some 32) m20_9 rfl rfl qT ?_
         refine pV (i:=20) (N:=some 33) m21_9 rfl rfl qT ?_
         refine pV (i:=23) (N:=some 36) m22_9 rfl rfl qT ?_
         refine pV (i:=24) (N:=some 37) m23_9 rfl rfl qT ?_
         refine pV (i:=25) (N:=some 38) m24_9 rfl rfl qT ?_
         refine pV (i:=26) (N:=some 39) m25_9 rfl rfl qT ?_
         refine take_ (i:=21) (N:=some 34) (v:=?_) (a':=?_) m26_9 rfl rfl (take_ofW HT_.out HW_.out (by kernel_rfl)) (fun _ _ _ h => h) (Or.inl ⟨by rfl,?_⟩) hHeld ?_ ?_;rotate_left
         ·rintro w' ⟨s0,s1,s2,s3,s4,s5,s6,s7,s8,s9,s10,s11⟩
          go_simp;with_reducible rfl
         rotate_left
         ·simp only [Act.put,sA,s0,s1,i64_w,i32_w];rfl
         refine pV (i:=22) (N:=some 35) m27_9 rfl rfl qT ?_
         refine take_ (i:=27) (N:=some 40) (v:=?_) (a':=?_) m28_9 rfl rfl (take_ofW HT_.out HW_.out (by kernel_rfl)) (fun _ _ _ h => h) (Or.inl ⟨by rfl,?_⟩) hHeld ?_ ?_;rotate_left
         ·rintro w' ⟨s0,s1,s2,s3,s4,s5,s6,s7,s8,s9,s10,s11⟩
          go_simp;with_reducible rfl
         rotate_left
         ·simp only [Act.put,sA,s0,s1,i64_w,i32_w];rfl
         refine pV (i:=28) (N:=some 41) m29_9 rfl rfl qT ?_
         refine pV (i:=29) (N:=some 42) m30_9 rfl rfl qT ?_
         refine pV (i:=30) (N:=some 43) m31_9 rfl rfl qT ?_
         refine pW (i:=31) (N:=some 44) m32_9 rfl rfl qT ?_
         refine pW (i:=32) (N:=some 45) m33_9 rfl rfl qT ?_
         refine pW (i:=33) (N:=some 46) m34_9 rfl rfl qT ?_
         refine pW (i:=34) (N:=some 47) m35_9 rfl rfl qT ?_
         refine pW (i:=35) (N:=some 48) m36_9 rfl rfl qT ?_
         refine pW (i:=36) (N:=some 49) m37_9 rfl rfl qT ?_
         refine pW (i:=37) (N:=some 50) m38_9 rfl rfl qT ?_
         refine pW (i:=38) (N:=some 51) m39_9 rfl rfl qT ?_
         refine pW (i:=39) (N:=some 52) m40_9 rfl rfl qT ?_
         refine pW (i:=40) (N:=some 53) m41_9 rfl rfl qT ?_
         refine pW (i:=41) (N:=some 54) m42_9 rfl rfl qT ?_
         refine pW (i:=42) (N:=some 55) m43_9 rfl rfl qT ?_
         refine pW (i:=43) (N:=some 56) m44_9 rfl rfl qT ?_
         refine pW (i:=44) (N:=some 57) m45_9 rfl rfl qT ?_
         refine pW (i:=45) (N:=some 58) m46_9 rfl rfl qT ?_
         refine pW (i:=46) (N:=some 59) m47_9 rfl rfl qT ?_
         refine pV (i:=47) (N:=some 60) m48_9 rfl rfl qT ?_
         refine done_ (done_of HT_.out (by kernel_rfl)) ?_
         try go_wp2
         go_meet
         case rel => exact ⟨_,(true),qq95,H',⟨qq93⟩,⟨qq88⟩,⟨qq73⟩⟩
        ·rw [if_neg c11] at H;have c11b0 : decide (((rd_T45 l0 x4_1).f1) < (((rd_T45 l0 x4_1).f2).length : Int)) = false:=decide_eq_false c11;clear c11
         by_cases c13 : x4_1 > 0
         ·rw [if_pos c13] at H;have c13b0 : decide (0 < x4_1) = true:=decide_eq_true c13;clear c13;obtain ⟨ji14,hji14⟩ : ∃ j_ : Int,(wrap64 (x4_1 - 1)) = j_:=⟨_,rfl⟩
          replace H : (if 0 ≤ (ji14) then (if (ji14) < (l0.length : Int) then (spec_AreTents.j1 k1 l0 x3_1 x4_1 (decide (((rd_T45 l0 (ji14)).f0) ≥ ((rd_T45 l0 x4_1).f0)))) else (none)) else (none)) = some r:=by first | (rw [hji14] at H;exact H) | (simp only [hji14] at H ⊢;exact H)
          (try rw [hji14] at A7);(try rw [hji14] at A9);have hji14w : (IntKind.i64.wrap (x4_1 - 1)) = ji14:=(i64_w _).trans hji14
          by_cases c15 : 0 ≤ (ji14)
          ·rw [if_pos c15] at H;have c15b0 : decide (0 ≤ (ji14)) = true:=decide_eq_true c15;clear c15
           by_cases c16 : (ji14) < (l0.length : Int)
           ·rw [if_pos c16] at H;have c16b0 : decide ((ji14) < (l0.length : Int)) = true:=decide_eq_true c16;clear c16;have H':=am H;clear H
            try go_wp2
            replace HO_3:=am qq139;replace HB:=am qq141;have p226 : 0 ≤ (x4_1 : Int):=odt qq94;have q226 : x4_1 < (l0.length : Int):=odt qq94;obtain ⟨ad226,A226_2,c226_2,e226,hx226_0,hx226_1,hx226_2,hl226_2,hi226_2⟩:=at_T45 HR0.out x4_1 p226 q226;have hw226_2:=hx226_2;have hw226_1:=hx226_1;have hw226_0:=hx226_0
            cases e226
            replace hx226_0:=(ct HB.out hx226_0 :)
            replace hx226_1:=(ct HB.out hx226_1 :)
            replace hx226_2:=(ct HB.out hx226_2 :)
            have HR226_2:=am hi226_2;have HC226_2:=am hl226_2;clear hi226_2 hl226_2;replace p226:=eq_true p226;replace q226:=eq_true q226;have p228 : 0 ≤ (x4_1 : Int):=odt qq94;have q228 : x4_1 < (l0.length : Int):=odt qq94;obtain ⟨ad228,A228_2,c228_2,e228,hx228_0,hx228_1,hx228_2,hl228_2,hi228_2⟩:=at_T45 HR0.out x4_1 p228 q228;have hw228_2:=hx228_2;have hw228_1:=hx228_1;have hw228_0:=hx228_0;obtain rfl : ad226 = ad228:=(by injection e228)
            replace hx228_0:=(ct HB.out hx228_0 :)
            replace hx228_1:=(ct HB.out hx228_1 :)
            replace hx228_2:=(ct HB.out hx228_2 :)
            have HR228_2:=am hi228_2;have HC228_2:=am hl228_2;clear hi228_2 hl228_2;replace p228:=eq_true p228;replace q228:=eq_true q228;have ea_:=Option.some.inj (hx226_2.symm.trans hx228_2)
            injection ea_ with ea_ en_ ec_
            subst ea_;subst ec_;clear en_;have p230 : 0 ≤ (x4_1 : Int):=odt qq94;have q230 : x4_1 < (l0.length : Int):=odt qq94;obtain ⟨ad230,A230_2,c230_2,e230,hx230_0,hx230_1,hx230_2,hl230_2,hi230_2⟩:=at_T45 HR0.out x4_1 p230 q230;have hw230_2:=hx230_2;have hw230_1:=hx230_1;have hw230_0:=hx230_0;obtain rfl : ad226 = ad230:=(by injection e230)
            replace hx230_0:=(ct HB.out hx230_0 :)
            replace hx230_1:=(ct HB.out hx230_1 :)
            replace hx230_2:=(ct HB.out hx230_2 :)
            have HR230_2:=am hi230_2;have HC230_2:=am hl230_2;clear hi230_2 hl230_2;replace p230:=eq_true p230;replace q230:=eq_true q230;have ea_:=Option.some.inj (hx226_2.symm.trans hx230_2)
            injection ea_ with ea_ en_ ec_
            subst ea_;subst ec_;clear en_;have p231 : 0 ≤ (x4_1 : Int):=odt qq94;have q231 : x4_1 < (l0.length : Int):=odt qq94;obtain ⟨ad231,A231_2,c231_2,e231,hx231_0,hx231_1,hx231_2,hl231_2,hi231_2⟩:=at_T45 HR0.out x4_1 p231 q231;have hw231_2:=hx231_2;have hw231_1:=hx231_1;have hw231_0:=hx231_0;obtain rfl : ad226 = ad231:=(by injection e231)
            replace hx231_0:=(ct HB.out hx231_0 :)
            replace hx231_1:=(ct HB.out hx231_1 :)
            replace hx231_2:=(ct HB.out hx231_2 :)
            have HR231_2:=am hi231_2;have HC231_2:=am hl231_2;clear hi231_2 hl231_2;replace p231:=eq_true p231;replace q231:=eq_true q231;have ea_:=Option.some.inj (hx226_2.symm.trans hx231_2)
            injection ea_ with ea_ en_ ec_
            subst ea_;subst ec_;clear en_;have p232 : 0 ≤ ((ji14) : Int):=odt qq94;have q232 : (ji14) < (l0.length : Int):=odt qq94;obtain ⟨ad232,A232_2,c232_2,e232,hx232_0,hx232_1,hx232_2,hl232_2,hi232_2⟩:=at_T45 HR0.out (ji14) p232 q232;have hw232_2:=hx232_2;have hw232_1:=hx232_1;have hw232_0:=hx232_0;obtain rfl : ad226 = ad232:=(by injection e232)
            replace hx232_0:=(ct HB.out hx232_0 :)
            replace hx232_1:=(ct HB.out hx232_1 :)
            replace hx232_2:=(ct HB.out hx232_2 :)
            have HR232_2:=am hi232_2;have HC232_2:=am hl232_2;clear hi232_2 hl232_2;replace p232:=eq_true p232;replace q232:=eq_true q232;have p233 : 0 ≤ (x4_1 : Int):=odt qq94;have q233 : x4_1 < (l0.length : Int):=odt qq94;obtain ⟨ad233,A233_2,c233_2,e233,hx233_0,hx233_1,hx233_2,hl233_2,hi233_2⟩:=at_T45 HR0.out x4_1 p233 q233;have hw233_2:=hx233_2;have hw233_1:=hx233_1;have hw233_0:=hx233_0;obtain rfl : ad226 = ad233:=(by injection e233)
            replace hx233_0:=(ct HB.out hx233_0 :)
            replace hx233_1:=(ct HB.out hx233_1 :)
            replace hx233_2:=(ct HB.out hx233_2 :)
            have HR233_2:=am hi233_2;have HC233_2:=am hl233_2;clear hi233_2 hl233_2;replace p233:=eq_true p233;replace q233:=eq_true q233;have ea_:=Option.some.inj (hx226_2.symm.trans hx233_2)
            injection ea_ with ea_ en_ ec_
            subst ea_;subst ec_;clear en_;refine start_ (n:=48) (S:=fun w' => w'.cell? (ad226.add ((x4_1).toNat * 3)) = some (.int .i64 ((rd_T45 l0 x4_1).f0)) ∧ w'.cell? ⟨(ad226.add ((x4_1).toNat * 3)).block,(ad226.add ((x4_1).toNat * 3)).off + 1,none⟩ = some (.int .i64 ((rd_T45 l0 x4_1).f1)) ∧ w'.cell? ⟨(ad226.add ((x4_1).toNat * 3)).block,(ad226.add ((x4_1).toNat * 3)).off + 2,none⟩ = some (.slice A226_2 ((rd_T45 l0 x4_1).f2).length c226_2) ∧ w'.cell? (ad226.add ((x4_1).toNat * 3)) = some (.int .i64 ((rd_T45 l0 x4_1).f0)) ∧ w'.cell? ⟨(ad226.add ((x4_1).toNat * 3)).block,(ad226.add ((x4_1).toNat * 3)).off + 1,none⟩ = some (.int .i64 ((rd_T45 l0 x4_1).f1)) ∧ w'.cell? ⟨(ad226.add ((x4_1).toNat * 3)).block,(ad226.add ((x4_1).toNat * 3)).off + 2,none⟩ = some (.slice A226_2 ((rd_T45 l0 x4_1).f2).length c226_2) ∧ w'.cell? (ad226.add ((x4_1).toNat * 3)) = some (.int .i64 ((rd_T45 l0 x4_1).f0)) ∧ w'.cell? ⟨(ad226.add ((x4_1).toNat * 3)).block,(ad226.add ((x4_1).toNat * 3)).off + 1,none⟩ = some (.int .i64 ((rd_T45 l0 x4_1).f1)) ∧ w'.cell? ⟨(ad226.add ((x4_1).toNat * 3)).block,(ad226.add ((x4_1).toNat * 3)).off + 2,none⟩ = some (.slice A226_2 ((rd_T45 l0 x4_1).f2).length c226_2) ∧ w'.cell? (ad226.add ((x4_1).toNat * 3)) = some (.int .i64 ((rd_T45 l0 x4_1).f0)) ∧ w'.cell? ⟨(ad226.add ((x4_1).toNat * 3)).block,(ad226.add ((x4_1).toNat * 3)).off + 1,none⟩ = some (.int .i64 ((rd_T45 l0 x4_1).f1)) ∧ w'.cell? ⟨(ad226.add ((x4_1).toNat * 3)).block,(ad226.add ((x4_1).toNat * 3)).off + 2,none⟩ = some (.slice A226_2 ((rd_T45 l0 x4_1).f2).length c226_2) ∧ w'.cell? (ad226.add (((ji14)).toNat * 3)) = some (.int .i64 ((rd_T45 l0 (ji14)).f0)) ∧ w'.cell? ⟨(ad226.add (((ji14)).toNat * 3)).block,(ad226.add (((ji14)).toNat * 3)).off + 1,none⟩ = some (.int .i64 ((rd_T45 l0 (ji14)).f1)) ∧ w'.cell? ⟨(ad226.add (((ji14)).toNat * 3)).block,(ad226.add (((ji14)).toNat * 3)).off + 2,none⟩ = some (.slice A232_2 ((rd_T45 l0 (ji14)).f2).length c232_2) ∧ w'.cell? (ad226.add ((x4_1).toNat * 3)) = some (.int .i64 ((rd_T45 l0 x4_1).f0)) ∧ w'.cell? ⟨(ad226.add ((x4_1).toNat * 3)).block,(ad226.add ((x4_1).toNat * 3)).off + 1,none⟩ = some (.int .i64 ((rd_T45 l0 x4_1).f1)) ∧ w'.cell? ⟨(ad226.add ((x4_1).toNat * 3)).block,(ad226.add ((x4_1).toNat * 3)).off + 2,none⟩ = some (.slice A226_2 ((rd_T45 l0 x4_1).f2).length c226_2)) (ds:=[]) m0_9 (by kernel_rfl) rfl rfl ⟨(ct HB.out hw226_0 :),(ct HB.out hw226_1 :),(ct HB.out hw226_2 :),(ct HB.out hw228_0 :),(ct HB.out hw228_1 :),(ct HB.out hw228_2 :),(ct HB.out hw230_0 :),(ct HB.out hw230_1 :),(ct HB.out hw230_2 :),(ct HB.out hw231_0 :),(ct HB.out hw231_1 :),(ct HB.out hw231_2 :),(ct HB.out hw232_0 :),(ct HB.out hw232_1 :),(ct HB.out hw232_2 :),(ct HB.out hw233_0 :),(ct HB.out hw233_1 :),(ct HB.out hw233_2 :)⟩ (fun hHeld => ?_);refine with_tabW spec_AreTents.tab5 spec_AreTents.bits5 (fun HT_ HW_ => ?_)
            generalize wr.drew = w17 at HO_3 HB HR226_2 HR228_2 HR230_2 HR231_2 HR232_2 HR233_2 hx226_0 hx226_1 hx226_2 hx228_0 hx228_1 hx228_2 hx230_0 hx230_1 hx230_2 hx231_0 hx231_1 hx231_2 hx232_0 hx232_1 hx232_2 hx233_0 hx233_1 hx233_2 hHeld ⊢
            refine pV (i:=0) (N:=some 13) m1_9 rfl rfl qT ?_
            refine pV (i:=1) (N:=some 14) m2_9 rfl rfl qT ?_
            refine pV (i:=2) (N:=some 15) m3_9 rfl rfl qT ?_
            refine pV (i:=3) (N:=some 16) m4_9 rfl rfl qT ?_
            refine take_ (i:=4) (N:=some 17) (v:=?_) (a':=?_) m5_9 rfl rfl (take_ofW HT_.out HW_.out (by kernel_rfl)) (fun _ _ _ h => h) (Or.inl ⟨by rfl,?_⟩) hHeld ?_ ?_;rotate_left
            ·rintro w' ⟨s0,s1,s2,s3,s4,s5,s6,s7,s8,s9,s10,s11,s12,s13,s14,s15,s16,s17⟩
             go_simp;with_reducible rfl
            rotate_left
            ·simp only [Act.put,sA,s0,s1,i64_w,i32_w];rfl
            refine one_ (i:=5) (N:=some 18) m6_9 rfl rfl (one_of HT_.out (by kernel_rfl)) (by decide) (fun K hK => ?_);refine goes_ Try.func47 (by kernel_rfl) rfl #[.int .i64 ((rd_T45 l0 x4_1).f0),.int .i64 1,.int .i64 99] (by rfl) rfl rfl qq50 ?_;with_reducible refine (spec_l1In.calls ((rd_T45 l0 x4_1).f0) 1 99 true _ A7.out).mono ?_
            rintro e w' ⟨rfl,⟨nd,rfl⟩⟩
            refine ⟨_,rfl,?_⟩;refine hK.out _ _ ⟨(ct HB.out hw226_0 :),(ct HB.out hw226_1 :),(ct HB.out hw226_2 :),(ct HB.out hw228_0 :),(ct HB.out hw228_1 :),(ct HB.out hw228_2 :),(ct HB.out hw230_0 :),(ct HB.out hw230_1 :),(ct HB.out hw230_2 :),(ct HB.out hw231_0 :),(ct HB.out hw231_1 :),(ct HB.out hw231_2 :),(ct HB.out hw232_0 :),(ct HB.out hw232_1 :),(ct HB.out hw232_2 :),(ct HB.out hw233_0 :),(ct HB.out hw233_1 :),(ct HB.out hw233_2 :)⟩ (fun hHeld => ?_);clear hK K;refine norm_ (a':=?_) ?_ ?_;rotate_left
            ·show Act.put _ (some 18) _ = _
             simp only [Act.put,sA,s0,s1,i64_w,i32_w];rfl
            refine pV (i:=6) (N:=some 19) m7_9 rfl rfl qT ?_
            refine pV (i:=7) (N:=some 20) m8_9 rfl rfl qT ?_
            refine pV (i:=8) (N:=some 21) m9_9 rfl rfl qT ?_
            refine pV (i:=9) (N:=some 22) m10_9 rfl rfl qT ?_
            refine pV (i:=10) (N:=some 23) m11_9 rfl rfl qT ?_
            refine pV (i:=11) (N:=some 24) m12_9 rfl rfl qT ?_
            refine take_ (i:=12) (N:=some 25) (v:=?_) (a':=?_) m13_9 rfl rfl (take_ofW HT_.out HW_.out (by kernel_rfl)) (fun _ _ _ h => h) (Or.inl ⟨by rfl,?_⟩) hHeld ?_ ?_;rotate_left
            ·rintro w' ⟨s0,s1,s2,s3,s4,s5,s6,s7,s8,s9,s10,s11,s12,s13,s14,s15,s16,s17⟩
             go_simp;with_reducible rfl
            rotate_left
            ·simp only [Act.put,sA,s0,s1,i64_w,i32_w];rfl
            refine one_ (i:=13) (N:=some 26) m14_9 rfl rfl (one_of HT_.out (by kernel_rfl)) (by decide) (fun K hK => ?_);refine goes_ Try.func47 (by kernel_rfl) rfl #[.int .i64 ((rd_T45 l0 x4_1).f1),.int .i64 1,.int .i64 6] (by rfl) rfl rfl qq50 ?_;with_reducible refine (spec_l1In.calls ((rd_T45 l0 x4_1).f1) 1 6 true _ A9.out).mono ?_
            rintro e w' ⟨rfl,⟨nd,rfl⟩⟩
            refine ⟨_,rfl,?_⟩;refine hK.out _ _ ⟨(ct HB.out hw226_0 :),(ct HB.out hw226_1 :),(ct HB.out hw226_2 :),(ct HB.out hw228_0 :),(ct HB.out hw228_1 :),(ct HB.out hw228_2 :),(ct HB.out hw230_0 :),(ct HB.out hw230_1 :),(ct HB.out hw230_2 :),(ct HB.out hw231_0 :),(ct HB.out hw231_1 :),(ct HB.out hw231_2 :),(ct HB.out hw232_0 :),(ct HB.out hw232_1 :),(ct HB.out hw232_2 :),(ct HB.out hw233_0 :),(ct HB.out hw233_1 :),(ct HB.out hw233_2 :)⟩ (fun hHeld => ?_);clear hK K;refine norm_ (a':=?_) ?_ ?_;rotate_left
            ·show Act.put _ (some 26) _ = _
             simp only [Act.put,sA,s0,s1,i64_w,i32_w];rfl
            refine pV (i:=14) (N:=some 27) m15_9 rfl rfl qT ?_
            refine pV (i:=15) (N:=some 28) m16_9 rfl rfl qT ?_
            refine pV (i:=16) (N:=some 29) m17_9 rfl rfl qT ?_
            refine pV (i:=17) (N:=some 30) m18_9 rfl rfl qT ?_
            refine pV (i:=18) (N:=some 31) m19_9 rfl rfl qT ?_
            refine pV (i:=19) (N:=some 32) m20_9 rfl rfl qT ?_
            refine pV (i:=20) (N:=some 33) m21_9 rfl rfl qT ?_
            refine pV (i:=23) (N:=some 36) m22_9 rfl rfl qT ?_
            refine pV (i:=24) (N:=some 37) m23_9 rfl rfl qT ?_
            refine pV (i:=25) (N:=some 38) m24_9 rfl rfl qT ?_
            refine pV (i:=26) (N:=some 39) m25_9 rfl rfl qT ?_
            refine take_ (i:=21) (N:=some 34) (v:=?_) (a':=?_) m26_9 rfl rfl (take_ofW HT_.out HW_.out (by kernel_rfl)) (fun _ _ _ h => h) (Or.inl ⟨by rfl,?_⟩) hHeld ?_ ?_;rotate_left
            ·rintro w' ⟨s0,s1,s2,s3,s4,s5,s6,s7,s8,s9,s10,s11,s12,s13,s14,s15,s16,s17⟩
             go_simp;with_reducible rfl
            rotate_left
            ·simp only [Act.put,sA,s0,s1,i64_w,i32_w];rfl
            refine pV (i:=22) (N:=some 35) m27_9 rfl rfl qT ?_
            refine take_ (i:=27) (N:=some 40) (v:=?_) (a':=?_) m28_9 rfl rfl (take_ofW HT_.out HW_.out (by kernel_rfl)) (fun _ _ _ h => h) (Or.inl ⟨by rfl,?_⟩) hHeld ?_ ?_;rotate_left
            ·rintro w' ⟨s0,s1,s2,s3,s4,s5,s6,s7,s8,s9,s10,s11,s12,s13,s14,s15,s16,s17⟩
             go_simp;with_reducible rfl
            rotate_left
            ·simp only [Act.put,sA,s0,s1,i64_w,i32_w];rfl
            refine pV (i:=28) (N:=some 41) m29_9 rfl rfl qT ?_
            refine pV (i:=29) (N:=some 42) m30_9 rfl rfl qT ?_
            refine pV (i:=30) (N:=some 43) m31_9 rfl rfl qT ?_
            refine pV (i:=31) (N:=some 44) m32_9 rfl rfl qT ?_
            refine pV (i:=32) (N:=some 45) m33_9 rfl rfl qT ?_
            refine pV (i:=33) (N:=some 46) m34_9 rfl rfl qT ?_
            refine pV (i:=34) (N:=some 47) m35_9 rfl rfl qT ?_
            refine pV (i:=35) (N:=some 48) m36_9 rfl rfl qT ?_
            refine pV (i:=36) (N:=some 49) m37_9 rfl rfl qT ?_
            refine pV (i:=37) (N:=some 50) m38_9 rfl rfl qT ?_
            refine pV (i:=38) (N:=some 51) m39_9 rfl rfl qT ?_
            refine pV (i:=40) (N:=some 53) #[Y,Y,Y,Y,Y,Y,Y,Y,Y,Y,Y,Y,Y,Y,Y,Y,Y,Y,Y,Y,Y,Y,Y,Y,Y,Y,Y,Y,Y,Y,Y,Y,Y,Y,Y,Y,Y,Y,Y,Z,Y,Z,Z,Z,Z,Z,Z,Z] rfl rfl qT ?_
            refine pV (i:=41) (N:=some 54) #[Y,Y,Y,Y,Y,Y,Y,Y,Y,Y,Y,Y,Y,Y,Y,Y,Y,Y,Y,Y,Y,Y,Y,Y,Y,Y,Y,Y,Y,Y,Y,Y,Y,Y,Y,Y,Y,Y,Y,Z,Y,Y,Z,Z,Z,Z,Z,Z] rfl rfl qT ?_
            refine pV (i:=42) (N:=some 55) #[Y,Y,Y,Y,Y,Y,Y,Y,Y,Y,Y,Y,Y,Y,Y,Y,Y,Y,Y,Y,Y,Y,Y,Y,Y,Y,Y,Y,Y,Y,Y,Y,Y,Y,Y,Y,Y,Y,Y,Z,Y,Y,Y,Z,Z,Z,Z,Z] rfl rfl qT ?_
            refine pV (i:=43) (N:=some 56) #[Y,Y,Y,Y,Y,Y,Y,Y,Y,Y,Y,Y,Y,Y,Y,Y,Y,Y,Y,Y,Y,Y,Y,Y,Y,Y,Y,Y,Y,Y,Y,Y,Y,Y,Y,Y,Y,Y,Y,Z,Y,Y,Y,Y,Z,Z,Z,Z] rfl rfl qT ?_
            refine take_ (i:=39) (N:=some 52) (v:=?_) (a':=?_) m44_9 rfl rfl (take_ofW HT_.out HW_.out (by kernel_rfl)) (fun _ _ _ h => h) (Or.inl ⟨by rfl,?_⟩) hHeld ?_ ?_;rotate_left
            ·rintro w' ⟨s0,s1,s2,s3,s4,s5,s6,s7,s8,s9,s10,s11,s12,s13,s14,s15,s16,s17⟩
             go_simp;with_reducible rfl
            rotate_left
            ·simp only [Act.put,sA,s0,s1,i64_w,i32_w];rfl
            refine take_ (i:=44) (N:=some 57) (v:=?_) (a':=?_) m45_9 rfl rfl (take_ofW HT_.out HW_.out (by kernel_rfl)) (fun _ _ _ h => h) (Or.inl ⟨by rfl,?_⟩) hHeld ?_ ?_;rotate_left
            ·rintro w' ⟨s0,s1,s2,s3,s4,s5,s6,s7,s8,s9,s10,s11,s12,s13,s14,s15,s16,s17⟩
             go_simp;with_reducible rfl
            rotate_left
            ·simp only [Act.put,sA,s0,s1,i64_w,i32_w];rfl
            refine pV (i:=45) (N:=some 58) m46_9 rfl rfl qT ?_
            refine pV (i:=46) (N:=some 59) m47_9 rfl rfl qT ?_
            refine pV (i:=47) (N:=some 60) m48_9 rfl rfl qT ?_
            refine done_ (done_of HT_.out (by kernel_rfl)) ?_
            try go_wp2
            go_meet
            case rel => exact ⟨_,(decide (((rd_T45 l0 (ji14)).f0) ≥ ((rd_T45 l0 x4_1).f0))),(by first | rfl | (simp;done) | (simp only [← hji14] <;> (first | rfl | simp)) | (simp [*];done)),H',⟨qq93⟩,⟨qq88⟩,⟨qq73⟩⟩
           ·rw [if_neg c16] at H;exact absurd H (by simp)
          ·rw [if_neg c15] at H;exact absurd H (by simp)
         ·rw [if_neg c13] at H;have c13b0 : decide (0 < x4_1) = false:=decide_eq_false c13;clear c13;have H':=am H;clear H
          try go_wp2
          replace HO_3:=am qq139;replace HB:=am qq141;have p226 : 0 ≤ (x4_1 : Int):=odt qq94;have q226 : x4_1 < (l0.length : Int):=odt qq94;obtain ⟨ad226,A226_2,c226_2,e226,hx226_0,hx226_1,hx226_2,hl226_2,hi226_2⟩:=at_T45 HR0.out x4_1 p226 q226;have hw226_2:=hx226_2;have hw226_1:=hx226_1;have hw226_0:=hx226_0
          cases e226
          replace hx226_0:=(ct HB.out hx226_0 :)
          replace hx226_1:=(ct HB.out hx226_1 :)
          replace hx226_2:=(ct HB.out hx226_2 :)
          have HR226_2:=am hi226_2;have HC226_2:=am hl226_2;clear hi226_2 hl226_2;replace p226:=eq_true p226;replace q226:=eq_true q226;have p228 : 0 ≤ (x4_1 : Int):=odt qq94;have q228 : x4_1 < (l0.length : Int):=odt qq94;obtain ⟨ad228,A228_2,c228_2,e228,hx228_0,hx228_1,hx228_2,hl228_2,hi228_2⟩:=at_T45 HR0.out x4_1 p228 q228;have hw228_2:=hx228_2;have hw228_1:=hx228_1;have hw228_0:=hx228_0;obtain rfl : ad226 = ad228:=(by injection e228)
          replace hx228_0:=(ct HB.out hx228_0 :)
          replace hx228_1:=(ct HB.out hx228_1 :)
          replace hx228_2:=(ct HB.out hx228_2 :)
          have HR228_2:=am hi228_2;have HC228_2:=am hl228_2;clear hi228_2 hl228_2;replace p228:=eq_true p228;replace q228:=eq_true q228;have ea_:=Option.some.inj (hx226_2.symm.trans hx228_2)
          injection ea_ with ea_ en_ ec_
          subst ea_;subst ec_;clear en_;have p230 : 0 ≤ (x4_1 : Int):=odt qq94;have q230 : x4_1 < (l0.length : Int):=odt qq94;obtain ⟨ad230,A230_2,c230_2,e230,hx230_0,hx230_1,hx230_2,hl230_2,hi230_2⟩:=at_T45 HR0.out x4_1 p230 q230;have hw230_2:=hx230_2;have hw230_1:=hx230_1;have hw230_0:=hx230_0;obtain rfl : ad226 = ad230:=(by injection e230)
          replace hx230_0:=(ct HB.out hx230_0 :)
          replace hx230_1:=(ct HB.out hx230_1 :)
          replace hx230_2:=(ct HB.out hx230_2 :)
          have HR230_2:=am hi230_2;have HC230_2:=am hl230_2;clear hi230_2 hl230_2;replace p230:=eq_true p230;replace q230:=eq_true q230;have ea_:=Option.some.inj (hx226_2.symm.trans hx230_2)
          injection ea_ with ea_ en_ ec_
          subst ea_;subst ec_;clear en_;have p231 : 0 ≤ (x4_1 : Int):=odt qq94;have q231 : x4_1 < (l0.length : Int):=odt qq94;obtain ⟨ad231,A231_2,c231_2,e231,hx231_0,hx231_1,hx231_2,hl231_2,hi231_2⟩:=at_T45 HR0.out x4_1 p231 q231;have hw231_2:=hx231_2;have hw231_1:=hx231_1;have hw231_0:=hx231_0;obtain rfl : ad226 = ad231:=(by injection e231)
          replace hx231_0:=(ct HB.out hx231_0 :)
          replace hx231_1:=(ct HB.out hx231_1 :)
          replace hx231_2:=(ct HB.out hx231_2 :)
          have HR231_2:=am hi231_2;have HC231_2:=am hl231_2;clear hi231_2 hl231_2;replace p231:=eq_true p231;replace q231:=eq_true q231;have ea_:=Option.some.inj (hx226_2.symm.trans hx231_2)
          injection ea_ with ea_ en_ ec_
          subst ea_;subst ec_;clear en_;refine start_ (n:=48) (S:=fun w' => w'.cell? (ad226.add ((x4_1).toNat * 3)) = some (.int .i64 ((rd_T45 l0 x4_1).f0)) ∧ w'.cell? ⟨(ad226.add ((x4_1).toNat * 3)).block,(ad226.add ((x4_1).toNat * 3)).off + 1,none⟩ = some (.int .i64 ((rd_T45 l0 x4_1).f1)) ∧ w'.cell? ⟨(ad226.add ((x4_1).toNat * 3)).block,(ad226.add ((x4_1).toNat * 3)).off + 2,none⟩ = some (.slice A226_2 ((rd_T45 l0 x4_1).f2).length c226_2) ∧ w'.cell? (ad226.add ((x4_1).toNat * 3)) = some (.int .i64 ((rd_T45 l0 x4_1).f0)) ∧ w'.cell? ⟨(ad226.add ((x4_1).toNat * 3)).block,(ad226.add ((x4_1).toNat * 3)).off + 1,none⟩ = some (.int .i64 ((rd_T45 l0 x4_1).f1)) ∧ w'.cell? ⟨(ad226.add ((x4_1).toNat * 3)).block,(ad226.add ((x4_1).toNat * 3)).off + 2,none⟩ = some (.slice A226_2 ((rd_T45 l0 x4_1).f2).length c226_2) ∧ w'.cell? (ad226.add ((x4_1).toNat * 3)) = some (.int .i64 ((rd_T45 l0 x4_1).f0)) ∧ w'.cell? ⟨(ad226.add ((x4_1).toNat * 3)).block,(ad226.add ((x4_1).toNat * 3)).off + 1,none⟩ = some (.int .i64 ((rd_T45 l0 x4_1).f1)) ∧ w'.cell? ⟨(ad226.add ((x4_1).toNat * 3)).block,(ad226.add ((x4_1).toNat * 3)).off + 2,none⟩ = some (.slice A226_2 ((rd_T45 l0 x4_1).f2).length c226_2) ∧ w'.cell? (ad226.add ((x4_1).toNat * 3)) = some (.int .i64 ((rd_T45 l0 x4_1).f0)) ∧ w'.cell? ⟨(ad226.add ((x4_1).toNat * 3)).block,(ad226.add ((x4_1).toNat * 3)).off + 1,none⟩ = some (.int .i64 ((rd_T45 l0 x4_1).f1)) ∧ w'.cell? ⟨(ad226.add ((x4_1).toNat * 3)).block,(ad226.add ((x4_1).toNat * 3)).off + 2,none⟩ = some (.slice A226_2 ((rd_T45 l0 x4_1).f2).length c226_2)) (ds:=[]) m0_9 (by kernel_rfl) rfl rfl ⟨(ct HB.out hw226_0 :),(ct HB.out hw226_1 :),(ct HB.out hw226_2 :),(ct HB.out hw228_0 :),(ct HB.out hw228_1 :),(ct HB.out hw228_2 :),(ct HB.out hw230_0 :),(ct HB.out hw230_1 :),(ct HB.out hw230_2 :),(ct HB.out hw231_0 :),(ct HB.out hw231_1 :),(ct HB.out hw231_2 :)⟩ (fun hHeld => ?_);refine with_tabW spec_AreTents.tab5 spec_AreTents.bits5 (fun HT_ HW_ => ?_)
          generalize wr.drew = w18 at HO_3 HB HR226_2 HR228_2 HR230_2 HR231_2 hx226_0 hx226_1 hx226_2 hx228_0 hx228_1 hx228_2 hx230_0 hx230_1 hx230_2 hx231_0 hx231_1 hx231_2 hHeld ⊢
          refine pV (i:=0) (N:=some 13) m1_9 rfl rfl qT ?_
          refine pV (i:=1) (N:=some 14) m2_9 rfl rfl qT ?_
          refine pV (i:=2) (N:=some 15) m3_9 rfl rfl qT ?_
          refine pV (i:=3) (N:=some 16) m4_9 rfl rfl qT ?_
          refine take_ (i:=4) (N:=some 17) (v:=?_) (a':=?_) m5_9 rfl rfl (take_ofW HT_.out HW_.out (by kernel_rfl)) (fun _ _ _ h => h) (Or.inl ⟨by rfl,?_⟩) hHeld ?_ ?_;rotate_left
          ·rintro w' ⟨s0,s1,s2,s3,s4,s5,s6,s7,s8,s9,s10,s11⟩
           go_simp;with_reducible rfl
          rotate_left
          ·simp only [Act.put,sA,s0,s1,i64_w,i32_w];rfl
          refine one_ (i:=5) (N:=some 18) m6_9 rfl rfl (one_of HT_.out (by kernel_rfl)) (by decide) (fun K hK => ?_);refine goes_ Try.func47 (by kernel_rfl) rfl #[.int .i64 ((rd_T45 l0 x4_1).f0),.int .i64 1,.int .i64 99] (by rfl) rfl rfl qq50 ?_;with_reducible refine (spec_l1In.calls ((rd_T45 l0 x4_1).f0) 1 99 true _ A7.out).mono ?_
          rintro e w' ⟨rfl,⟨nd,rfl⟩⟩
          refine ⟨_,rfl,?_⟩;refine hK.out _ _ ⟨(ct HB.out hw226_0 :),(ct HB.out hw226_1 :),(ct HB.out hw226_2 :),(ct HB.out hw228_0 :),(ct HB.out hw228_1 :),(ct HB.out hw228_2 :),(ct HB.out hw230_0 :),(ct HB.out hw230_1 :),(ct HB.out hw230_2 :),(ct HB.out hw231_0 :),(ct HB.out hw231_1 :),(ct HB.out hw231_2 :)⟩ (fun hHeld => ?_);clear hK K;refine norm_ (a':=?_) ?_ ?_;rotate_left
          ·show Act.put _ (some 18) _ = _
           simp only [Act.put,sA,s0,s1,i64_w,i32_w];rfl
          refine pV (i:=6) (N:=some 19) m7_9 rfl rfl qT ?_
          refine pV (i:=7) (N:=some 20) m8_9 rfl rfl qT ?_
          refine pV (i:=8) (N:=some 21) m9_9 rfl rfl qT ?_
          refine pV (i:=9) (N:=some 22) m10_9 rfl rfl qT ?_
          refine pV (i:=10) (N:=some 23) m11_9 rfl rfl qT ?_
          refine pV (i:=11) (N:=some 24) m12_9 rfl rfl qT ?_
          refine take_ (i:=12) (N:=some 25) (v:=?_) (a':=?_) m13_9 rfl rfl (take_ofW HT_.out HW_.out (by kernel_rfl)) (fun _ _ _ h => h) (Or.inl ⟨by rfl,?_⟩) hHeld ?_ ?_;rotate_left
          ·rintro w' ⟨s0,s1,s2,s3,s4,s5,s6,s7,s8,s9,s10,s11⟩
           go_simp;with_reducible rfl
          rotate_left
          ·simp only [Act.put,sA,s0,s1,i64_w,i32_w];rfl
          refine one_ (i:=13) (N:=some 26) m14_9 rfl rfl (one_of HT_.out (by kernel_rfl)) (by decide) (fun K hK => ?_);refine goes_ Try.func47 (by kernel_rfl) rfl #[.int .i64 ((rd_T45 l0 x4_1).f1),.int .i64 1,.int .i64 6] (by rfl) rfl rfl qq50 ?_;with_reducible refine (spec_l1In.calls ((rd_T45 l0 x4_1).f1) 1 6 true _ A9.out).mono ?_
          rintro e w' ⟨rfl,⟨nd,rfl⟩⟩
          refine ⟨_,rfl,?_⟩;refine hK.out _ _ ⟨(ct HB.out hw226_0 :),(ct HB.out hw226_1 :),(ct HB.out hw226_2 :),(ct HB.out hw228_0 :),(ct HB.out hw228_1 :),(ct HB.out hw228_2 :),(ct HB.out hw230_0 :),(ct HB.out hw230_1 :),(ct HB.out hw230_2 :),(ct HB.out hw231_0 :),(ct HB.out hw231_1 :),(ct HB.out hw231_2 :)⟩ (fun hHeld => ?_);clear hK K;refine norm_ (a':=?_) ?_ ?_;rotate_left
          ·show Act.put _ (some 26) _ = _
           simp only [Act.put,sA,s0,s1,i64_w,i32_w];rfl
          refine pV (i:=14) (N:=some 27) m15_9 rfl rfl qT ?_
          refine pV (i:=15) (N:=some 28) m16_9 rfl rfl qT ?_
          refine pV (i:=16) (N:=some 29) m17_9 rfl rfl qT ?_
          refine pV (i:=17) (N:=some 30) m18_9 rfl rfl qT ?_
          refine pV (i:=18) (N:=some 31) m19_9 rfl rfl qT ?_
          refine pV (i:=19) (N:=some 32) m20_9 rfl rfl qT ?_
          refine pV (i:=20) (N:=some 33) m21_9 rfl rfl qT ?_
          refine pV (i:=23) (N:=some 36) m22_9 rfl rfl qT ?_
          refine pV (i:=24) (N:=some 37) m23_9 rfl rfl qT ?_
          refine pV (i:=25) (N:=some 38) m24_9 rfl rfl qT ?_
          refine pV (i:=26) (N:=some 39) m25_9 rfl rfl qT ?_
          refine take_ (i:=21) (N:=some 34) (v:=?_) (a':=?_) m26_9 rfl rfl (take_ofW HT_.out HW_.out (by kernel_rfl)) (fun _ _ _ h => h) (Or.inl ⟨by rfl,?_⟩) hHeld ?_ ?_;rotate_left
          ·rintro w' ⟨s0,s1,s2,s3,s4,s5,s6,s7,s8,s9,s10,s11⟩
           go_simp;with_reducible rfl
          rotate_left
          ·simp only [Act.put,sA,s0,s1,i64_w,i32_w];rfl
          refine pV (i:=22) (N:=some 35) m27_9 rfl rfl qT ?_
          refine take_ (i:=27) (N:=some 40) (v:=?_) (a':=?_) m28_9 rfl rfl (take_ofW HT_.out HW_.out (by kernel_rfl)) (fun _ _ _ h => h) (Or.inl ⟨by rfl,?_⟩) hHeld ?_ ?_;rotate_left
          ·rintro w' ⟨s0,s1,s2,s3,s4,s5,s6,s7,s8,s9,s10,s11⟩
           go_simp;with_reducible rfl
          rotate_left
          ·simp only [Act.put,sA,s0,s1,i64_w,i32_w];rfl
          refine pV (i:=28) (N:=some 41) m29_9 rfl rfl qT ?_
          refine pV (i:=29) (N:=some 42) m30_9 rfl rfl qT ?_
          refine pV (i:=30) (N:=some 43) m31_9 rfl rfl qT ?_
          refine pV (i:=31) (N:=some 44) m32_9 rfl rfl qT ?_
          refine pV (i:=32) (N:=some 45) m33_9 rfl rfl qT ?_
          refine pV (i:=33) (N:=some 46) m34_9 rfl rfl qT ?_
          refine pW (i:=34) (N:=some 47) m35_9 rfl rfl qT ?_
          refine pW (i:=35) (N:=some 48) m36_9 rfl rfl qT ?_
          refine pW (i:=36) (N:=some 49) m37_9 rfl rfl qT ?_
          refine pW (i:=37) (N:=some 50) m38_9 rfl rfl qT ?_
          refine pW (i:=38) (N:=some 51) m39_9 rfl rfl qT ?_
          refine pW (i:=39) (N:=some 52) m40_9 rfl rfl qT ?_
          refine pW (i:=40) (N:=some 53) m41_9 rfl rfl qT ?_
          refine pW (i:=41) (N:=some 54) m42_9 rfl rfl qT ?_
          refine pW (i:=42) (N:=some 55) m43_9 rfl rfl qT ?_
          refine pW (i:=43) (N:=some 56) m44_9 rfl rfl qT ?_
          refine pW (i:=44) (N:=some 57) m45_9 rfl rfl qT ?_
          refine pW (i:=45) (N:=some 58) m46_9 rfl rfl qT ?_
          refine pV (i:=46) (N:=some 59) m47_9 rfl rfl qT ?_
          refine pV (i:=47) (N:=some 60) m48_9 rfl rfl qT ?_
          refine done_ (done_of HT_.out (by kernel_rfl)) ?_
          try go_wp2
          go_meet
          case rel => exact ⟨_,(false),qq95,H',⟨qq93⟩,⟨qq88⟩,⟨qq73⟩⟩
       ·replace c10:=Bool.eq_false_iff.mpr c10;subst c10;have H1 : (spec_AreTents.j1 k1 l0 x3_1 x4_1 true) = some r:=by rw [if_neg (show ¬ (false = true) by decide)] at H;exact H
        clear H;have H:=H1;clear H1;have H':=am H;clear H
        try go_wp2
        replace HO_3:=am qq139;replace HB:=am qq141;have p226 : 0 ≤ (x4_1 : Int):=odt qq94;have q226 : x4_1 < (l0.length : Int):=odt qq94;obtain ⟨ad226,A226_2,c226_2,e226,hx226_0,hx226_1,hx226_2,hl226_2,hi226_2⟩:=at_T45 HR0.out x4_1 p226 q226;have hw226_2:=hx226_2;have hw226_1:=hx226_1;have hw226_0:=hx226_0
        cases e226
        replace hx226_0:=(ct HB.out hx226_0 :)
        replace hx226_1:=(ct HB.out hx226_1 :)
        replace hx226_2:=(ct HB.out hx226_2 :)
        have HR226_2:=am hi226_2;have HC226_2:=am hl226_2;clear hi226_2 hl226_2;replace p226:=eq_true p226;replace q226:=eq_true q226;have p228 : 0 ≤ (x4_1 : Int):=odt qq94;have q228 : x4_1 < (l0.length : Int):=odt qq94;obtain ⟨ad228,A228_2,c228_2,e228,hx228_0,hx228_1,hx228_2,hl228_2,hi228_2⟩:=at_T45 HR0.out x4_1 p228 q228;have hw228_2:=hx228_2;have hw228_1:=hx228_1;have hw228_0:=hx228_0;obtain rfl : ad226 = ad228:=(by injection e228)
        replace hx228_0:=(ct HB.out hx228_0 :)
        replace hx228_1:=(ct HB.out hx228_1 :)
        replace hx228_2:=(ct HB.out hx228_2 :)
        have HR228_2:=am hi228_2;have HC228_2:=am hl228_2;clear hi228_2 hl228_2;replace p228:=eq_true p228;replace q228:=eq_true q228;have ea_:=Option.some.inj (hx226_2.symm.trans hx228_2)
        injection ea_ with ea_ en_ ec_
        subst ea_;subst ec_;clear en_;refine start_ (n:=48) (S:=fun w' => w'.cell? (ad226.add ((x4_1).toNat * 3)) = some (.int .i64 ((rd_T45 l0 x4_1).f0)) ∧ w'.cell? ⟨(ad226.add ((x4_1).toNat * 3)).block,(ad226.add ((x4_1).toNat * 3)).off + 1,none⟩ = some (.int .i64 ((rd_T45 l0 x4_1).f1)) ∧ w'.cell? ⟨(ad226.add ((x4_1).toNat * 3)).block,(ad226.add ((x4_1).toNat * 3)).off + 2,none⟩ = some (.slice A226_2 ((rd_T45 l0 x4_1).f2).length c226_2) ∧ w'.cell? (ad226.add ((x4_1).toNat * 3)) = some (.int .i64 ((rd_T45 l0 x4_1).f0)) ∧ w'.cell? ⟨(ad226.add ((x4_1).toNat * 3)).block,(ad226.add ((x4_1).toNat * 3)).off + 1,none⟩ = some (.int .i64 ((rd_T45 l0 x4_1).f1)) ∧ w'.cell? ⟨(ad226.add ((x4_1).toNat * 3)).block,(ad226.add ((x4_1).toNat * 3)).off + 2,none⟩ = some (.slice A226_2 ((rd_T45 l0 x4_1).f2).length c226_2)) (ds:=[]) m0_9 (by kernel_rfl) rfl rfl ⟨(ct HB.out hw226_0 :),(ct HB.out hw226_1 :),(ct HB.out hw226_2 :),(ct HB.out hw228_0 :),(ct HB.out hw228_1 :),(ct HB.out hw228_2 :)⟩ (fun hHeld => ?_);refine with_tabW spec_AreTents.tab5 spec_AreTents.bits5 (fun HT_ HW_ => ?_)
        generalize wr.drew = w19 at HO_3 HB HR226_2 HR228_2 hx226_0 hx226_1 hx226_2 hx228_0 hx228_1 hx228_2 hHeld ⊢
        refine pV (i:=0) (N:=some 13) m1_9 rfl rfl qT ?_
        refine pV (i:=1) (N:=some 14) m2_9 rfl rfl qT ?_
        refine pV (i:=2) (N:=some 15) m3_9 rfl rfl qT ?_
        refine pV (i:=3) (N:=some 16) m4_9 rfl rfl qT ?_
        refine tV6 (i:=4) (N:=some 17) m5_9 rfl rfl (take_ofW HT_.out HW_.out (by kernel_rfl)) hHeld ?_
        refine one_ (i:=5) (N:=some 18) m6_9 rfl rfl (one_of HT_.out (by kernel_rfl)) (by decide) (fun K hK => ?_);refine goes_ Try.func47 (by kernel_rfl) rfl #[.int .i64 ((rd_T45 l0 x4_1).f0),.int .i64 1,.int .i64 99] (by rfl) rfl rfl qq50 ?_;with_reducible refine (spec_l1In.calls ((rd_T45 l0 x4_1).f0) 1 99 true _ A7.out).mono ?_
        rintro e w' ⟨rfl,⟨nd,rfl⟩⟩
        refine ⟨_,rfl,?_⟩;refine hK.out _ _ ⟨(ct HB.out hw226_0 :),(ct HB.out hw226_1 :),(ct HB.out hw226_2 :),(ct HB.out hw228_0 :),(ct HB.out hw228_1 :),(ct HB.out hw228_2 :)⟩ (fun hHeld => ?_);clear hK K;refine norm_ (a':=?_) ?_ ?_;rotate_left
        ·show Act.put _ (some 18) _ = _
         simp only [Act.put,sA,s0,s1,i64_w,i32_w];rfl
        refine pV (i:=6) (N:=some 19) m7_9 rfl rfl qT ?_
        refine pV (i:=7) (N:=some 20) m8_9 rfl rfl qT ?_
        refine pV (i:=8) (N:=some 21) m9_9 rfl rfl qT ?_
        refine pV (i:=9) (N:=some 22) m10_9 rfl rfl qT ?_
        refine pV (i:=10) (N:=some 23) m11_9 rfl rfl qT ?_
        refine pV (i:=11) (N:=some 24) m12_9 rfl rfl qT ?_
        refine tV6 (i:=12) (N:=some 25) m13_9 rfl rfl (take_ofW HT_.out HW_.out (by kernel_rfl)) hHeld ?_
        refine one_ (i:=13) (N:=some 26) m14_9 rfl rfl (one_of HT_.out (by kernel_rfl)) (by decide) (fun K hK => ?_);refine goes_ Try.func47 (by kernel_rfl) rfl #[.int .i64 ((rd_T45 l0 x4_1).f1),.int .i64 1,.int .i64 6] (by rfl) rfl rfl qq50 ?_;with_reducible refine (spec_l1In.calls ((rd_T45 l0 x4_1).f1) 1 6 false _ A9.out).mono ?_
        rintro e w' ⟨rfl,⟨nd,rfl⟩⟩
        refine ⟨_,rfl,?_⟩;refine hK.out _ _ ⟨(ct HB.out hw226_0 :),(ct HB.out hw226_1 :),(ct HB.out hw226_2 :),(ct HB.out hw228_0 :),(ct HB.out hw228_1 :),(ct HB.out hw228_2 :)⟩ (fun hHeld => ?_);clear hK K;refine norm_ (a':=?_) ?_ ?_;rotate_left
        ·show Act.put _ (some 26) _ = _
         simp only [Act.put,sA,s0,s1,i64_w,i32_w];rfl
        refine pV (i:=14) (N:=some 27) m15_9 rfl rfl qT ?_
        refine pV (i:=15) (N:=some 28) m16_9 rfl rfl qT ?_
        refine pV (i:=16) (N:=some 29) m17_9 rfl rfl qT ?_
        refine pW (i:=17) (N:=some 30) m18_9 rfl rfl qT ?_
        refine pW (i:=18) (N:=some 31) m19_9 rfl rfl qT ?_
        refine pW (i:=19) (N:=some 32) m20_9 rfl rfl qT ?_
        refine pW (i:=20) (N:=some 33) m21_9 rfl rfl qT ?_
        refine pW (i:=21) (N:=some 34) m49_9 rfl rfl qT ?_
        refine pW (i:=22) (N:=some 35) m50_9 rfl rfl qT ?_
        refine pW (i:=23) (N:=some 36) m51_9 rfl rfl qT ?_
        refine pW (i:=24) (N:=some 37) m52_9 rfl rfl qT ?_
        refine pW (i:=25) (N:=some 38) m53_9 rfl rfl qT ?_
        refine pW (i:=26) (N:=some 39) m27_9 rfl rfl qT ?_
        refine pW (i:=27) (N:=some 40) m28_9 rfl rfl qT ?_
        refine pW (i:=28) (N:=some 41) m29_9 rfl rfl qT ?_
        refine pV (i:=29) (N:=some 42) m30_9 rfl rfl qT ?_
        refine pV (i:=30) (N:=some 43) m31_9 rfl rfl qT ?_
        refine pW (i:=31) (N:=some 44) m32_9 rfl rfl qT ?_
        refine pW (i:=32) (N:=some 45) m33_9 rfl rfl qT ?_
        refine pW (i:=33) (N:=some 46) m34_9 rfl rfl qT ?_
        refine pW (i:=34) (N:=some 47) m35_9 rfl rfl qT ?_
        refine pW (i:=35) (N:=some 48) m36_9 rfl rfl qT ?_
        refine pW (i:=36) (N:=some 49) m37_9 rfl rfl qT ?_
        refine pW (i:=37) (N:=some 50) m38_9 rfl rfl qT ?_
        refine pW (i:=38) (N:=some 51) m39_9 rfl rfl qT ?_
        refine pW (i:=39) (N:=some 52) m40_9 rfl rfl qT ?_
        refine pW (i:=40) (N:=some 53) m41_9 rfl rfl qT ?_
        refine pW (i:=41) (N:=some 54) m42_9 rfl rfl qT ?_
        refine pW (i:=42) (N:=some 55) m43_9 rfl rfl qT ?_
        refine pW (i:=43) (N:=some 56) m44_9 rfl rfl qT ?_
        refine pW (i:=44) (N:=some 57) m45_9 rfl rfl qT ?_
        refine pW (i:=45) (N:=some 58) m46_9 rfl rfl qT ?_
        refine pW (i:=46) (N:=some 59) m47_9 rfl rfl qT ?_
        refine pV (i:=47) (N:=some 60) m48_9 rfl rfl qT ?_
        refine done_ (done_of HT_.out (by kernel_rfl)) ?_
        try go_wp2
        go_meet
        case rel => exact ⟨_,(true),qq95,H',⟨qq93⟩,⟨qq88⟩,⟨qq73⟩⟩
      ·replace c8:=Bool.eq_false_iff.mpr c8;subst c8;have H1 : (spec_AreTents.j1 k1 l0 x3_1 x4_1 true) = some r:=by rw [if_neg (show ¬ (false = true) by decide)] at H;exact H
       clear H;have H:=H1;clear H1;have H':=am H;clear H
       try go_wp2
       replace HO_3:=am qq139;replace HB:=am qq141;have p226 : 0 ≤ (x4_1 : Int):=odt qq94;have q226 : x4_1 < (l0.length : Int):=odt qq94;obtain ⟨ad226,A226_2,c226_2,e226,hx226_0,hx226_1,hx226_2,hl226_2,hi226_2⟩:=at_T45 HR0.out x4_1 p226 q226;have hw226_2:=hx226_2;have hw226_1:=hx226_1;have hw226_0:=hx226_0
       cases e226
       replace hx226_0:=(ct HB.out hx226_0 :)
       replace hx226_1:=(ct HB.out hx226_1 :)
       replace hx226_2:=(ct HB.out hx226_2 :)
       have HR226_2:=am hi226_2;have HC226_2:=am hl226_2;clear hi226_2 hl226_2;replace p226:=eq_true p226;replace q226:=eq_true q226;refine start_ (n:=48) (S:=fun w' => w'.cell? (ad226.add ((x4_1).toNat * 3)) = some (.int .i64 ((rd_T45 l0 x4_1).f0)) ∧ w'.cell? ⟨(ad226.add ((x4_1).toNat * 3)).block,(ad226.add ((x4_1).toNat * 3)).off + 1,none⟩ = some (.int .i64 ((rd_T45 l0 x4_1).f1)) ∧ w'.cell? ⟨(ad226.add ((x4_1).toNat * 3)).block,(ad226.add ((x4_1).toNat * 3)).off + 2,none⟩ = some (.slice A226_2 ((rd_T45 l0 x4_1).f2).length c226_2)) (ds:=[]) m0_9 (by kernel_rfl) rfl rfl ⟨(ct HB.out hw226_0 :),(ct HB.out hw226_1 :),(ct HB.out hw226_2 :)⟩ (fun hHeld => ?_);refine with_tabW spec_AreTents.tab5 spec_AreTents.bits5 (fun HT_ HW_ => ?_)
       generalize wr.drew = w20 at HO_3 HB HR226_2 hx226_0 hx226_1 hx226_2 hHeld ⊢
       refine pV (i:=0) (N:=some 13) m1_9 rfl rfl qT ?_
       refine pV (i:=1) (N:=some 14) m2_9 rfl rfl qT ?_
       refine pV (i:=2) (N:=some 15) m3_9 rfl rfl qT ?_
       refine pV (i:=3) (N:=some 16) m4_9 rfl rfl qT ?_
       refine tV3 (i:=4) (N:=some 17) m5_9 rfl rfl (take_ofW HT_.out HW_.out (by kernel_rfl)) hHeld ?_
       refine one_ (i:=5) (N:=some 18) m6_9 rfl rfl (one_of HT_.out (by kernel_rfl)) (by decide) (fun K hK => ?_);refine goes_ Try.func47 (by kernel_rfl) rfl #[.int .i64 ((rd_T45 l0 x4_1).f0),.int .i64 1,.int .i64 99] (by rfl) rfl rfl qq50 ?_;with_reducible refine (spec_l1In.calls ((rd_T45 l0 x4_1).f0) 1 99 false _ A7.out).mono ?_
       rintro e w' ⟨rfl,⟨nd,rfl⟩⟩
       refine ⟨_,rfl,?_⟩;refine hK.out _ _ ⟨(ct HB.out hw226_0 :),(ct HB.out hw226_1 :),(ct HB.out hw226_2 :)⟩ (fun hHeld => ?_);clear hK K;refine norm_ (a':=?_) ?_ ?_;rotate_left
       ·show Act.put _ (some 18) _ = _
        simp only [Act.put,sA,s0,s1,i64_w,i32_w];rfl
       refine pV (i:=6) (N:=some 19) m7_9 rfl rfl qT ?_
       refine pV (i:=7) (N:=some 20) m8_9 rfl rfl qT ?_
       refine pW (i:=8) (N:=some 21) m9_9 rfl rfl qT ?_
       refine pW (i:=9) (N:=some 22) m10_9 rfl rfl qT ?_
       refine pW (i:=10) (N:=some 23) m11_9 rfl rfl qT ?_
       refine pW (i:=11) (N:=some 24) m12_9 rfl rfl qT ?_
       refine pW (i:=12) (N:=some 25) m13_9 rfl rfl qT ?_
       refine pW (i:=13) (N:=some 26) m14_9 rfl rfl qT ?_
       refine pW (i:=14) (N:=some 27) m15_9 rfl rfl qT ?_
       refine pV (i:=15) (N:=some 28) m16_9 rfl rfl qT ?_
       refine pV (i:=16) (N:=some 29) m17_9 rfl rfl qT ?_
       refine pW (i:=17) (N:=some 30) m18_9 rfl rfl qT ?_
       refine pW (i:=18) (N:=some 31) m19_9 rfl rfl qT ?_
       refine pW (i:=19) (N:=some 32) m20_9 rfl rfl qT ?_
       refine pW (i:=20) (N:=some 33) m21_9 rfl rfl qT ?_
       refine pW (i:=21) (N:=some 34) m49_9 rfl rfl qT ?_
       refine pW (i:=22) (N:=some 35) m50_9 rfl rfl qT ?_
       refine pW (i:=23) (N:=some 36) m51_9 rfl rfl qT ?_
       refine pW (i:=24) (N:=some 37) m52_9 rfl rfl qT ?_
       refine pW (i:=25) (N:=some 38) m53_9 rfl rfl qT ?_
       refine pW (i:=26) (N:=some 39) m27_9 rfl rfl qT ?_
       refine pW (i:=27) (N:=some 40) m28_9 rfl rfl qT ?_
       refine pW (i:=28) (N:=some 41) m29_9 rfl rfl qT ?_
       refine pV (i:=29) (N:=some 42) m30_9 rfl rfl qT ?_
       refine pV (i:=30) (N:=some 43) m31_9 rfl rfl qT ?_
       refine pW (i:=31) (N:=some 44) m32_9 rfl rfl qT ?_
       refine pW (i:=32) (N:=some 45) m33_9 rfl rfl qT ?_
       refine pW (i:=33) (N:=some 46) m34_9 rfl rfl qT ?_
       refine pW (i:=34) (N:=some 47) m35_9 rfl rfl qT ?_
       refine pW (i:=35) (N:=some 48) m36_9 rfl rfl qT ?_
       refine pW (i:=36) (N:=some 49) m37_9 rfl rfl qT ?_
       refine pW (i:=37) (N:=some 50) m38_9 rfl rfl qT ?_
       refine pW (i:=38) (N:=some 51) m39_9 rfl rfl qT ?_
       refine pW (i:=39) (N:=some 52) m40_9 rfl rfl qT ?_
       refine pW (i:=40) (N:=some 53) m41_9 rfl rfl qT ?_
       refine pW (i:=41) (N:=some 54) m42_9 rfl rfl qT ?_
       refine pW (i:=42) (N:=some 55) m43_9 rfl rfl qT ?_
       refine pW (i:=43) (N:=some 56) m44_9 rfl rfl qT ?_
       refine pW (i:=44) (N:=some 57) m45_9 rfl rfl qT ?_
       refine pW (i:=45) (N:=some 58) m46_9 rfl rfl qT ?_
       refine pW (i:=46) (N:=some 59) m47_9 rfl rfl qT ?_
       refine pV (i:=47) (N:=some 60) m48_9 rfl rfl qT ?_
       refine done_ (done_of HT_.out (by kernel_rfl)) ?_
       try go_wp2
       go_meet
       case rel => exact ⟨_,(true),qq95,H',⟨qq93⟩,⟨qq88⟩,⟨qq73⟩⟩
     ·rw [if_neg c6] at H;exact absurd H (by simp)
    case rest =>
     clear HC5
     try clear c2
     try clear p2
     try clear q2
     try clear hx2
     try clear c4
     try clear c6
     try clear c8
     try clear hx226_0
     try clear hx226_1
     try clear hx226_2
     try clear hx228_0
     try clear hx228_1
     try clear hx228_2
     try clear p226
     try clear p228
     try clear q226
     try clear q228
     obtain ⟨kq,x60_4,rfl,HA,HJ4,HO_3,HB⟩:=hcut
     cases kq with
     | zero => exact absurd HA.out (by simp [spec_AreTents.j1])
     | succ kj4 =>
      have H:=HA.out;clear HA;simp only [spec_AreTents.j1] at H
      by_cases c21 : x60_4 = true
      ·subst c21;have H1 : (some false) = some r:=by rw [if_pos rfl] at H;exact H
       clear H;have H:=H1;clear H1;obtain rfl:=Option.some.inj H;go_wp2
       go_ret
       exact ⟨qq81,qq73⟩
      ·replace c21:=Bool.eq_false_iff.mpr c21;subst c21;have H1 : (spec_AreTents.l1 kj4 l0 x3_1 x4_1 0) = some r:=by rw [if_neg (show ¬ (false = true) by decide)] at H;exact H
       clear H;have H:=H1;clear H1;have H':=am H;clear H;go_wp2
       go_loopg [3,5] kj4 (fun kq v3 v5 w' => ∃ (x3_3 : List Int) (x5_3 : Int),v5 = .int .i64 x5_3 ∧ Aside0 (spec_AreTents.l1 kq l0 x3_3 x4_1 x5_3 = some r) ∧ Aside0 (kq ≤ kj4) ∧ Aside0 (Kd.R (Kd.int .i64) 3 w' w.heap.size (fun _ => True) v3 x3_3) ∧ Aside0 (Below w.heap.size w w'))
       case atStart => exact ⟨(x3_1),(0),qq95,H',⟨Nat.le_refl _⟩,⟨qq88⟩,⟨qq73⟩⟩
       case round =>
        clear H'
        try clear c2
        try clear p2
        try clear q2
        try clear hx2
        try clear c4
        try clear c6
        try clear c8
        try clear c21
        try clear hx226_0
        try clear hx226_1
        try clear hx226_2
        try clear hx228_0
        try clear hx228_1
        try clear hx228_2
        try clear p2
        try clear p226
        try clear p228
        try clear q2
        try clear q226
        try clear q228
        obtain ⟨x3_3,x5_3,rfl,HA,HK3,HO_3,HB⟩:=hrel
        cases gk with
        | zero => exact absurd HA.out (by simp [spec_AreTents.l1])
        | succ k3 =>
         have H:=HA.out;clear HA;simp only [spec_AreTents.l1] at H
         by_cases c22 : 0 ≤ x4_1
         ·rw [if_pos c22] at H;have c22b0 : decide (0 ≤ x4_1) = true:=decide_eq_true c22;clear c22
          by_cases c23 : x4_1 < (l0.length : Int)
          ·rw [if_pos c23] at H;have c23b0 : decide (x4_1 < (l0.length : Int)) = true:=decide_eq_true c23;clear c23
           by_cases c24 : x5_3 < (((rd_T45 l0 x4_1).f2).length : Int)
           ·rw [if_pos c24] at H;have c24b0 : decide (x5_3 < (((rd_T45 l0 x4_1).f2).length : Int)) = true:=decide_eq_true c24;clear c24
            by_cases c25 : 0 ≤ x5_3
            ·rw [if_pos c25] at H;have c25b0 : decide (0 ≤ x5_3) = true:=decide_eq_true c25;clear c25;replace H:=bS.mp H;obtain ⟨t237,A260,H⟩:=H;replace H : (if t237 = true then (some false) else (if x3_3.length < 17592186044416 then (spec_AreTents.l1 k3 l0 (x3_3 ++ [rd ((rd_T45 l0 x4_1).f2) x5_3]) x4_1 (wrap64 (x5_3 + 1))) else (none))) = some r:=H;have A26:=am A260;clear A260
             by_cases c27 : t237 = true
             ·subst c27;have H1 : (some false) = some r:=by rw [if_pos rfl] at H;exact H
              clear H;have H:=H1;clear H1;obtain rfl:=Option.some.inj H;have p234 : 0 ≤ (x4_1 : Int):=odt qq94;have q234 : x4_1 < (l0.length : Int):=odt qq94;obtain ⟨ad234,A234_2,c234_2,e234,hx234_0,hx234_1,hx234_2,hl234_2,hi234_2⟩:=at_T45 HR0.out x4_1 p234 q234
              cases e234
              replace hx234_0:=(ct HB.out hx234_0 :)
              replace hx234_1:=(ct HB.out hx234_1 :)
              replace hx234_2:=(ct HB.out hx234_2 :)
              have HR234_2:=am hi234_2;have HC234_2:=am hl234_2;clear hi234_2 hl234_2;replace p234:=eq_true p234;replace q234:=eq_true q234;have p235 : 0 ≤ (x4_1 : Int):=odt qq94;have q235 : x4_1 < (l0.length : Int):=odt qq94;obtain ⟨ad235,A235_2,c235_2,e235,hx235_0,hx235_1,hx235_2,hl235_2,hi235_2⟩:=at_T45 HR0.out x4_1 p235 q235;obtain rfl : ad234 = ad235:=(by injection e235)
              replace hx235_0:=(ct HB.out hx235_0 :)
              replace hx235_1:=(ct HB.out hx235_1 :)
              replace hx235_2:=(ct HB.out hx235_2 :)
              have HR235_2:=am hi235_2;have HC235_2:=am hl235_2;clear hi235_2 hl235_2;replace p235:=eq_true p235;replace q235:=eq_true q235;have ea_:=Option.some.inj (hx234_2.symm.trans hx235_2)
              injection ea_ with ea_ en_ ec_
              subst ea_;subst ec_;clear en_;have p236 : 0 ≤ (x5_3 : Int):=odt qq94;have q236 : x5_3 < (((rd_T45 l0 x4_1).f2).length : Int):=odt qq94;obtain ⟨ad236,e236,hx236_0⟩:=Kd.at_int HR235_2.out x5_3 p236 q236
              cases e236
              replace hx236_0:=(ct HB.out hx236_0 :)
              replace p236:=eq_true p236;replace q236:=eq_true q236;obtain ⟨Ao28,co28,eo28⟩:=Kd.R_slice HO_3.out;subst eo28;go_wp2_with (first | ((with_reducible refine gate_callee (f:=46) rfl ?_);refine goesL_ (some 80) rfl rfl Try.func46 (by kernel_rfl) rfl #[.slice Ao28 x3_3.length co28,.int .i64 (rd ((rd_T45 l0 x4_1).f2) x5_3)] rfl qq50 ?_;(with_reducible refine (spec_l14Has.calls k3 _ _ x3_3 (rd ((rd_T45 l0 x4_1).f2) x5_3) true _ ?side1 ?side2 A26.out).mono ?_);(case side1 => exact qq35);(case side2 => exact qq104);rintro e w' ⟨rfl,⟨nd,rfl⟩⟩;refine ⟨_,rfl,?_⟩))
              go_ret
              exact ⟨qq81,qq73⟩
             ·replace c27:=Bool.eq_false_iff.mpr c27;subst c27;have H1 : (if x3_3.length < 17592186044416 then (spec_AreTents.l1 k3 l0 (x3_3 ++ [rd ((rd_T45 l0 x4_1).f2) x5_3]) x4_1 (wrap64 (x5_3 + 1))) else (none)) = some r:=by rw [if_neg (show ¬ (false = true) by decide)] at H;exact H
              clear H;have H:=H1;clear H1
              by_cases c29 : x3_3.length < 17592186044416
              ·rw [if_pos c29] at H;have LMc29:=am c29;clear c29;obtain ⟨y240,hy240⟩ : ∃ y_ : List Int,y_ = (x3_3 ++ [rd ((rd_T45 l0 x4_1).f2) x5_3]):=⟨_,rfl⟩
               replace H : (spec_AreTents.l1 k3 l0 y240 x4_1 (wrap64 (x5_3 + 1))) = some r:=by first | (rw [hy240];with_reducible exact H) | (have H2_:=(Option.bind_some _ _).symm.trans H;rw [hy240];with_reducible exact H2_) | (have H2_:=(Option.bind_some _ _).symm.trans H;with_reducible exact H2_) | with_reducible exact H | (rw [hy240];exact H) | exact H
               have Ny240:=am hy240;clear hy240;have H':=am H;clear H;have p234 : 0 ≤ (x4_1 : Int):=odt qq94;have q234 : x4_1 < (l0.length : Int):=odt qq94;obtain ⟨ad234,A234_2,c234_2,e234,hx234_0,hx234_1,hx234_2,hl234_2,hi234_2⟩:=at_T45 HR0.out x4_1 p234 q234
               cases e234
               replace hx234_0:=(ct HB.out hx234_0 :)
               replace hx234_1:=(ct HB.out hx234_1 :)
               replace hx234_2:=(ct HB.out hx234_2 :)
               have HR234_2:=am hi234_2;have HC234_2:=am hl234_2;clear hi234_2 hl234_2;replace p234:=eq_true p234;replace q234:=eq_true q234;have p235 : 0 ≤ (x4_1 : Int):=odt qq94;have q235 : x4_1 < (l0.length : Int):=odt qq94;obtain ⟨ad235,A235_2,c235_2,e235,hx235_0,hx235_1,hx235_2,hl235_2,hi235_2⟩:=at_T45 HR0.out x4_1 p235 q235;obtain rfl : ad234 = ad235:=(by injection e235)
               replace hx235_0:=(ct HB.out hx235_0 :)
               replace hx235_1:=(ct HB.out hx235_1 :)
               replace hx235_2:=(ct HB.out hx235_2 :)
               have HR235_2:=am hi235_2;have HC235_2:=am hl235_2;clear hi235_2 hl235_2;replace p235:=eq_true p235;replace q235:=eq_true q235;have ea_:=Option.some.inj (hx234_2.symm.trans hx235_2)
               injection ea_ with ea_ en_ ec_
               subst ea_;subst ec_;clear en_;have p236 : 0 ≤ (x5_3 : Int):=odt qq94;have q236 : x5_3 < (((rd_T45 l0 x4_1).f2).length : Int):=odt qq94;obtain ⟨ad236,e236,hx236_0⟩:=Kd.at_int HR235_2.out x5_3 p236 q236
               cases e236
               replace hx236_0:=(ct HB.out hx236_0 :)
               replace p236:=eq_true p236;replace q236:=eq_true q236;obtain ⟨Ao30,co30,eo30⟩:=Kd.R_slice HO_3.out;subst eo30;go_wp2_with (first | ((with_reducible refine gate_callee (f:=46) rfl ?_);refine goesL_ (some 80) rfl rfl Try.func46 (by kernel_rfl) rfl #[.slice Ao30 x3_3.length co30,.int .i64 (rd ((rd_T45 l0 x4_1).f2) x5_3)] rfl qq50 ?_;(with_reducible refine (spec_l14Has.calls k3 _ _ x3_3 (rd ((rd_T45 l0 x4_1).f2) x5_3) false _ ?side1 ?side2 A26.out).mono ?_);(case side1 => exact qq35);(case side2 => exact qq104);rintro e w' ⟨rfl,⟨nd,rfl⟩⟩;refine ⟨_,rfl,?_⟩;have p238 : 0 ≤ (x4_1 : Int):=odt qq94;have q238 : x4_1 < (l0.length : Int):=odt qq94;obtain ⟨ad238,A238_2,c238_2,e238,hx238_0,hx238_1,hx238_2,hl238_2,hi238_2⟩:=at_T45 HR0.out x4_1 p238 q238;obtain rfl : ad234 = ad238:=(by injection e238);replace hx238_0:=(ct HB.out hx238_0 :);replace hx238_1:=(ct HB.out hx238_1 :);replace hx238_2:=(ct HB.out hx238_2 :);have HR238_2:=am hi238_2;have HC238_2:=am hl238_2;clear hi238_2 hl238_2;replace p238:=eq_true p238;replace q238:=eq_true q238;have ea_:=Option.some.inj (hx234_2.symm.trans hx238_2);injection ea_ with ea_ en_ ec_;subst ea_;subst ec_;clear en_;have p239 : 0 ≤ (x5_3 : Int):=odt qq94;have q239 : x5_3 < (((rd_T45 l0 x4_1).f2).length : Int):=odt qq94;obtain ⟨ad239,e239,hx239_0⟩:=Kd.at_int HR238_2.out x5_3 p239 q239;cases e239;replace hx239_0:=(ct HB.out hx239_0 :);replace p239:=eq_true p239;replace q239:=eq_true q239) | ((with_reducible refine gate_builtin (b:=.append) (xs:=#[.tmp 81,.tmp 90]) rfl ?_);(try (refine gate_guard (by rfl) ?_;dsimp only));at_builtin;refine Kd.R_append (Kd.int .i64) (w0:=w) w.heap.size rfl (.tmp 81) (.tmp 90) 43 3 (.int .i64 0) 8 rfl Try.underlying43 info3 rfl (by decide) (by omega) (.slice Ao30 x3_3.length co30) x3_3 (rd ((rd_T45 l0 x4_1).f2) x5_3) [.int .i64 (rd ((rd_T45 l0 x4_1).f2) x5_3)] (fun _ => True) (fun _ => False) rfl rfl ?aP (fun _ hk => hk.elim) ?aF ?aO ?aB ?aS ?aL ?_;(case aP => exact rfl);(case aB => exact qq63);(case aF => exact qq105);(case aO => exact qq82);(case aS => exact qq60);(case aL => have:=LMc29.out;omega);intro v241 w31 ho hb hg hat;rw [← Ny240.out] at ho;replace HB:=am (hb);have HO242:=am (ho);clear HO_3;clear ho hb hg hat))
               go_roundg k3
               case measure => have:=HK1.out;have:=HJ4.out;have:=HK3.out;omega
               case rel => exact ⟨(y240),(wrap64 (x5_3 + 1)),qq95,H',⟨by have:=HK1.out;have:=HJ4.out;have:=HK3.out;omega⟩,⟨by (with_reducible repeat (first | apply kA | apply kN | apply kD));exact HO242.out⟩,⟨qq73⟩⟩
              ·rw [if_neg c29] at H;exact absurd H (by simp)
            ·rw [if_neg c25] at H;exact absurd H (by simp)
           ·rw [if_neg c24] at H;have c24b0 : decide (x5_3 < (((rd_T45 l0 x4_1).f2).length : Int)) = false:=decide_eq_false c24;clear c24;have H':=am H;clear H;have p234 : 0 ≤ (x4_1 : Int):=odt qq94;have q234 : x4_1 < (l0.length : Int):=odt qq94;obtain ⟨ad234,A234_2,c234_2,e234,hx234_0,hx234_1,hx234_2,hl234_2,hi234_2⟩:=at_T45 HR0.out x4_1 p234 q234
            cases e234
            replace hx234_0:=(ct HB.out hx234_0 :)
            replace hx234_1:=(ct HB.out hx234_1 :)
            replace hx234_2:=(ct HB.out hx234_2 :)
            have HR234_2:=am hi234_2;have HC234_2:=am hl234_2;clear hi234_2 hl234_2;replace p234:=eq_true p234;replace q234:=eq_true q234;go_wp2
            go_roundg k3
            case measure => have:=HK1.out;have:=HJ4.out;have:=HK3.out;omega
            case rel => exact ⟨(x3_3),(wrap64 (x4_1 + 1)),qq95,H',⟨by have:=HK1.out;have:=HJ4.out;have:=HK3.out;omega⟩,⟨qq88⟩,⟨qq73⟩⟩
          ·rw [if_neg c23] at H;exact absurd H (by simp)
         ·rw [if_neg c22] at H;exact absurd H (by simp)
   ·rw [if_neg c4] at H;have c4b0 : decide (x4_1 < (l0.length : Int)) = false:=decide_eq_false c4;clear c4;obtain rfl:=Option.some.inj H;go_wp2
    go_ret
    exact ⟨qq81,qq73⟩

end Go.Proofs.Ytnghncedinngoaa.PFnTents
