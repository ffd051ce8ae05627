/- Contracts of functions that the law FnTents reaches, for its row: lines that the kit's printer wrote for this claim, set shorter by a program of this session (own.py), and what fell in Lean proved anew. Lean checks them. -/
import Derived.Test.YtnghncedinngoaaSFnTentsx0
import Derived.Test.YtnghncedinngoaaSFnTentsx1
namespace Go.Proofs.Ytnghncedinngoaa.PFnTents
open Go.RowKit Go.Proofs.YtnghncedinngoaaW.PrintWords Go.Proofs.YtnghncedinngoaaW.PrintLast Go.Proofs.YtnghncedinngoaaW.PrintMore
attribute [local go_sem] max2_int min2_int max_two min_two max_three min_three max_four min_four   -- for this text's walks alone
set_option linter.unusedVariables false
set_option linter.unusedSimpArgs false

abbrev m0_2 : Array Bool := #[Z,Z,Z,Z,Z,Z,Z,Z,Z,Z,Z,Z,Z,Z,Z,Z,Z,Z,Z,Z,Z,Z,Z,Z,Z,Z,Z,Z,Z,Z,Z,Z,Z]
abbrev m1_2 : Array Bool := #[Y,Z,Z,Z,Z,Z,Z,Z,Z,Z,Z,Z,Z,Z,Z,Z,Z,Z,Z,Z,Z,Z,Z,Z,Z,Z,Z,Z,Z,Z,Z,Z,Z]
abbrev m2_2 : Array Bool := #[Y,Y,Z,Z,Z,Z,Z,Z,Z,Z,Z,Z,Z,Z,Z,Z,Z,Z,Z,Z,Z,Z,Z,Z,Z,Z,Z,Z,Z,Z,Z,Z,Z]
abbrev m3_2 : Array Bool := #[Y,Y,Y,Z,Z,Z,Z,Z,Z,Z,Z,Z,Z,Z,Z,Z,Z,Z,Z,Z,Z,Z,Z,Z,Z,Z,Z,Z,Z,Z,Z,Z,Z]
abbrev m4_2 : Array Bool := #[Y,Y,Y,Y,Z,Z,Z,Z,Z,Z,Z,Z,Z,Z,Z,Z,Z,Z,Z,Z,Z,Z,Z,Z,Z,Z,Z,Z,Z,Z,Z,Z,Z]
abbrev m5_2 : Array Bool := #[Y,Y,Y,Y,Y,Z,Z,Z,Z,Z,Z,Z,Z,Z,Z,Z,Z,Z,Z,Z,Z,Z,Z,Z,Z,Z,Z,Z,Z,Z,Z,Z,Z]
abbrev m6_2 : Array Bool := #[Y,Y,Y,Y,Y,Y,Z,Z,Z,Z,Z,Z,Z,Z,Z,Z,Z,Z,Z,Z,Z,Z,Z,Z,Z,Z,Z,Z,Z,Z,Z,Z,Z]
abbrev m7_2 : Array Bool := #[Y,Y,Y,Y,Y,Y,Y,Z,Z,Z,Z,Z,Z,Z,Z,Z,Z,Z,Z,Z,Z,Z,Z,Z,Z,Z,Z,Z,Z,Z,Z,Z,Z]
abbrev m8_2 : Array Bool := #[Y,Y,Y,Y,Y,Y,Y,Y,Z,Z,Z,Z,Z,Z,Z,Z,Z,Z,Z,Z,Z,Z,Z,Z,Z,Z,Z,Z,Z,Z,Z,Z,Z]
abbrev m9_2 : Array Bool := #[Y,Y,Y,Y,Y,Y,Y,Y,Y,Z,Z,Z,Z,Z,Z,Z,Z,Z,Z,Z,Z,Z,Z,Z,Z,Z,Z,Z,Z,Z,Z,Z,Z]
abbrev m10_2 : Array Bool := #[Y,Y,Y,Y,Y,Y,Y,Y,Y,Z,Y,Z,Z,Z,Z,Z,Z,Z,Z,Z,Z,Z,Z,Z,Z,Z,Z,Z,Z,Z,Z,Z,Z]
abbrev m11_2 : Array Bool := #[Y,Y,Y,Y,Y,Y,Y,Y,Y,Z,Y,Y,Z,Z,Z,Z,Z,Z,Z,Z,Z,Z,Z,Z,Z,Z,Z,Z,Z,Z,Z,Z,Z]
abbrev m12_2 : Array Bool := #[Y,Y,Y,Y,Y,Y,Y,Y,Y,Z,Y,Y,Y,Z,Z,Z,Z,Z,Z,Z,Z,Z,Z,Z,Z,Z,Z,Z,Z,Z,Z,Z,Z]
abbrev m13_2 : Array Bool := #[Y,Y,Y,Y,Y,Y,Y,Y,Y,Z,Y,Y,Y,Y,Z,Z,Z,Z,Z,Z,Z,Z,Z,Z,Z,Z,Z,Z,Z,Z,Z,Z,Z]
abbrev m14_2 : Array Bool := #[Y,Y,Y,Y,Y,Y,Y,Y,Y,Z,Y,Y,Y,Y,Y,Z,Z,Z,Z,Z,Z,Z,Z,Z,Z,Z,Z,Z,Z,Z,Z,Z,Z]
abbrev m15_2 : Array Bool := #[Y,Y,Y,Y,Y,Y,Y,Y,Y,Y,Y,Y,Y,Y,Y,Z,Z,Z,Z,Z,Z,Z,Z,Z,Z,Z,Z,Z,Z,Z,Z,Z,Z]
abbrev m16_2 : Array Bool := #[Y,Y,Y,Y,Y,Y,Y,Y,Y,Y,Y,Y,Y,Y,Y,Y,Z,Z,Z,Z,Z,Z,Z,Z,Z,Z,Z,Z,Z,Z,Z,Z,Z]
abbrev m17_2 : Array Bool := #[Y,Y,Y,Y,Y,Y,Y,Y,Y,Y,Y,Y,Y,Y,Y,Y,Y,Z,Z,Z,Z,Z,Z,Z,Z,Z,Z,Z,Z,Z,Z,Z,Z]
abbrev m18_2 : Array Bool := #[Y,Y,Y,Y,Y,Y,Y,Y,Y,Y,Y,Y,Y,Y,Y,Y,Y,Y,Z,Z,Z,Z,Z,Z,Z,Z,Z,Z,Z,Z,Z,Z,Z]
abbrev m19_2 : Array Bool := #[Y,Y,Y,Y,Y,Y,Y,Y,Y,Y,Y,Y,Y,Y,Y,Y,Y,Y,Y,Z,Z,Z,Z,Z,Z,Z,Z,Z,Z,Z,Z,Z,Z]
abbrev m20_2 : Array Bool := #[Y,Y,Y,Y,Y,Y,Y,Y,Y,Y,Y,Y,Y,Y,Y,Y,Y,Y,Y,Y,Z,Z,Z,Z,Z,Z,Z,Z,Z,Z,Z,Z,Z]
abbrev m21_2 : Array Bool := #[Y,Y,Y,Y,Y,Y,Y,Y,Y,Y,Y,Y,Y,Y,Y,Y,Y,Y,Y,Y,Y,Z,Z,Z,Z,Z,Z,Z,Z,Z,Z,Z,Z]
abbrev m22_2 : Array Bool := #[Y,Y,Y,Y,Y,Y,Y,Y,Y,Y,Y,Y,Y,Y,Y,Y,Y,Y,Y,Y,Y,Y,Z,Z,Z,Z,Z,Z,Z,Z,Z,Z,Z]
abbrev m23_2 : Array Bool := #[Y,Y,Y,Y,Y,Y,Y,Y,Y,Y,Y,Y,Y,Y,Y,Y,Y,Y,Y,Y,Y,Y,Y,Z,Z,Z,Z,Z,Z,Z,Z,Z,Z]
abbrev m24_2 : Array Bool := #[Y,Y,Y,Y,Y,Y,Y,Y,Y,Y,Y,Y,Y,Y,Y,Y,Y,Y,Y,Y,Y,Y,Y,Y,Z,Z,Z,Z,Z,Z,Z,Z,Z]
abbrev m25_2 : Array Bool := #[Y,Y,Y,Y,Y,Y,Y,Y,Y,Y,Y,Y,Y,Y,Y,Y,Y,Y,Y,Y,Y,Y,Y,Y,Y,Z,Z,Z,Z,Z,Z,Z,Z]
abbrev m26_2 : Array Bool := #[Y,Y,Y,Y,Y,Y,Y,Y,Y,Y,Y,Y,Y,Y,Y,Y,Y,Y,Y,Y,Y,Y,Y,Y,Y,Y,Z,Z,Z,Z,Z,Z,Z]
abbrev m27_2 : Array Bool := #[Y,Y,Y,Y,Y,Y,Y,Y,Y,Y,Y,Y,Y,Y,Y,Y,Y,Y,Y,Y,Y,Y,Y,Y,Y,Y,Y,Z,Z,Z,Z,Z,Z]
abbrev m28_2 : Array Bool := #[Y,Y,Y,Y,Y,Y,Y,Y,Y,Y,Y,Y,Y,Y,Y,Y,Y,Y,Y,Y,Y,Y,Y,Y,Y,Y,Y,Y,Z,Z,Z,Z,Z]
abbrev m29_2 : Array Bool := #[Y,Y,Y,Y,Y,Y,Y,Y,Y,Y,Y,Y,Y,Y,Y,Y,Y,Y,Y,Y,Y,Y,Y,Y,Y,Y,Y,Y,Y,Z,Z,Z,Z]
abbrev m30_2 : Array Bool := #[Y,Y,Y,Y,Y,Y,Y,Y,Y,Y,Y,Y,Y,Y,Y,Y,Y,Y,Y,Y,Y,Y,Y,Y,Y,Y,Y,Y,Y,Y,Z,Z,Z]
abbrev m31_2 : Array Bool := #[Y,Y,Y,Y,Y,Y,Y,Y,Y,Y,Y,Y,Y,Y,Y,Y,Y,Y,Y,Y,Y,Y,Y,Y,Y,Y,Y,Y,Y,Y,Y,Z,Z]
abbrev m32_2 : Array Bool := #[Y,Y,Y,Y,Y,Y,Y,Y,Y,Y,Y,Y,Y,Y,Y,Y,Y,Y,Y,Y,Y,Y,Y,Y,Y,Y,Y,Y,Y,Y,Y,Y,Z]
abbrev m33_2 : Array Bool := #[Y,Y,Y,Y,Y,Y,Y,Y,Y,Y,Y,Y,Y,Y,Y,Y,Y,Y,Y,Y,Y,Y,Y,Y,Y,Y,Y,Y,Y,Y,Y,Y,Y]
abbrev m34_2 : Array Bool := #[Y,Y,Y,Y,Y,Y,Y,Y,Y,Y,Y,Y,Y,Y,Y,Y,Y,Y,Y,Y,Y,Y,Y,Y,Y,Y,Y,Z,Z,Y,Z,Z,Z]
abbrev m35_2 : Array Bool := #[Y,Y,Y,Y,Y,Y,Y,Y,Y,Y,Y,Y,Y,Y,Y,Y,Y,Y,Y,Y,Y,Y,Y,Y,Y,Y,Y,Y,Z,Y,Z,Z,Z]
abbrev m36_2 : Array Bool := #[Y,Y,Y,Y,Y,Y,Y,Y,Y,Y,Z,Z,Z,Z,Z,Z,Z,Z,Z,Z,Z,Z,Z,Z,Z,Z,Z,Z,Z,Z,Z,Z,Z]
abbrev m37_2 : Array Bool := #[Y,Y,Y,Y,Y,Y,Y,Y,Y,Y,Y,Z,Z,Z,Z,Z,Z,Z,Z,Z,Z,Z,Z,Z,Z,Z,Z,Z,Z,Z,Z,Z,Z]
abbrev m38_2 : Array Bool := #[Y,Y,Y,Y,Y,Y,Y,Y,Y,Y,Y,Y,Z,Z,Z,Z,Z,Z,Z,Z,Z,Z,Z,Z,Z,Z,Z,Z,Z,Z,Z,Z,Z]
abbrev m39_2 : Array Bool := #[Y,Y,Y,Y,Y,Y,Y,Y,Y,Y,Y,Y,Y,Z,Z,Z,Z,Z,Z,Z,Z,Z,Z,Z,Z,Z,Z,Z,Z,Z,Z,Z,Z]
abbrev m40_2 : Array Bool := #[Y,Y,Y,Y,Y,Y,Y,Y,Y,Y,Y,Y,Y,Y,Z,Z,Z,Z,Z,Z,Z,Z,Z,Z,Z,Z,Z,Z,Z,Z,Z,Z,Z]
/-! ### impl_AreTents: function 21 -/
mutual
def impl_AreTents.l0 : Nat → List (S45) → List Int → List (S45) → Int → Int → Option (Bool)
 | 0,_,_,_,_,_ => none
 | k + 1,x0,x3,x9,x10,x11 => if x11 < x10 then (if 0 ≤ x11 then (if x11 < (x9.length : Int) then ((impl_InRange.f ((rd_T45 x9 x11).f0) 1 99).bind fun t108 => (if t108 = true then (if x11 > 0 then (if 0 ≤ (wrap64 (x11 - 1)) then (if (wrap64 (x11 - 1)) < (x0.length : Int) then (if ((rd_T45 x9 x11).f0) ≤ ((rd_T45 x0 (wrap64 (x11 - 1))).f0) then (impl_AreTents.j1 k x0 x3 x9 x10 x11 true ((rd_T45 x9 x11).f0) ((rd_T45 x9 x11).f1) ((rd_T45 x9 x11).f2)) else ((impl_InRange.f ((rd_T45 x9 x11).f1) 1 6).bind fun t110 => (if t110 = true then (impl_AreTents.j1 k x0 x3 x9 x10 x11 (decide ((((rd_T45 x9 x11).f2).length : Int) > ((rd_T45 x9 x11).f1))) ((rd_T45 x9 x11).f0) ((rd_T45 x9 x11).f1) ((rd_T45 x9 x11).f2)) else (impl_AreTents.j1 k x0 x3 x9 x10 x11 true ((rd_T45 x9 x11).f0) ((rd_T45 x9 x11).f1) ((rd_T45 x9 x11).f2))))) else (none)) else (none)) else ((impl_InRange.f ((rd_T45 x9 x11).f1) 1 6).bind fun t111 => (if t111 = true then (impl_AreTents.j1 k x0 x3 x9 x10 x11 (decide ((((rd_T45 x9 x11).f2).length : Int) > ((rd_T45 x9 x11).f1))) ((rd_T45 x9 x11).f0) ((rd_T45 x9 x11).f1) ((rd_T45 x9 x11).f2)) else (impl_AreTents.j1 k x0 x3 x9 x10 x11 true ((rd_T45 x9 x11).f0) ((rd_T45 x9 x11).f1) ((rd_T45 x9 x11).f2))))) else (impl_AreTents.j1 k x0 x3 x9 x10 x11 true ((rd_T45 x9 x11).f0) ((rd_T45 x9 x11).f1) ((rd_T45 x9 x11).f2)))) else (none)) else (none)) else (some (decide ((x0.length : Int) ≤ 8)))
def impl_AreTents.j1 : Nat → List (S45) → List Int → List (S45) → Int → Int → Bool → Int → Int → List Int → Option (Bool)
 | 0,_,_,_,_,_,_,_,_,_ => none
 | k + 1,x0,x3,x9,x10,x11,x48,x108000,x108001,x108002 => if x48 = true then (some false) else (impl_AreTents.l1 k x0 x3 x9 x10 x11 x108002 (x108002.length : Int) 0)
def impl_AreTents.l1 : Nat → List (S45) → List Int → List (S45) → Int → Int → List Int → Int → Int → Option (Bool)
 | 0,_,_,_,_,_,_,_,_ => none
 | k + 1,x0,x3,x9,x10,x11,x50,x51,x52 => if x52 < x51 then (if 0 ≤ x52 then (if x52 < (x50.length : Int) then ((impl_has.f k x3 (rd x50 x52)).bind fun t113 => (if t113 = true then (some false) else (if x3.length < 17592186044416 then (impl_AreTents.l1 k x0 (x3 ++ [rd x50 x52]) x9 x10 x11 x50 x51 (wrap64 (x52 + 1))) else (none)))) else (none)) else (none)) else (impl_AreTents.l0 k x0 x3 x9 x10 (wrap64 (x11 + 1)))
end
def impl_AreTents.f (k : Nat) (l0 : List (S45)) : Option (Bool) := impl_AreTents.l0 k l0 (([] : List Int)) l0 (l0.length : Int) 0
theorem impl_AreTents.mono_l : ∀ k, (∀ y0 y1 y2 y3 y4, LeO (impl_AreTents.l0 k y0 y1 y2 y3 y4) (impl_AreTents.l0 (k + 1) y0 y1 y2 y3 y4)) ∧ (∀ y0 y1 y2 y3 y4 y5 y6 y7 y8, LeO (impl_AreTents.j1 k y0 y1 y2 y3 y4 y5 y6 y7 y8) (impl_AreTents.j1 (k + 1) y0 y1 y2 y3 y4 y5 y6 y7 y8)) ∧ (∀ y0 y1 y2 y3 y4 y5 y6 y7, LeO (impl_AreTents.l1 k y0 y1 y2 y3 y4 y5 y6 y7) (impl_AreTents.l1 (k + 1) y0 y1 y2 y3 y4 y5 y6 y7))
 | 0 => ⟨fun _ _ _ _ _ r h => by simp [impl_AreTents.l0] at h,fun _ _ _ _ _ _ _ _ _ r h => by simp [impl_AreTents.j1] at h,fun _ _ _ _ _ _ _ _ r h => by simp [impl_AreTents.l1] at h⟩
 | k + 1 => by
  obtain ⟨ih0,ih1,ih2⟩:=impl_AreTents.mono_l k
  refine ⟨?_,?_,?_⟩
  ·intro y0 y1 y2 y3 y4
   unfold impl_AreTents.l0
   repeat' first
   | (with_reducible exact ih0 _ _ _ _ _)
   | (with_reducible exact ih1 _ _ _ _ _ _ _ _ _)
   | (with_reducible exact ih2 _ _ _ _ _ _ _ _)
   | (with_reducible exact impl_has.mono _ _ _)
   | (with_reducible exact LeO.refl _)
   | (with_reducible exact LeO.none _)
   | (with_reducible refine LeO.ite ?_ ?_)
   | (with_reducible refine LeO.bind ?_ (fun _ => ?_))
   | exact ih0 _ _ _ _ _
   | exact ih1 _ _ _ _ _ _ _ _ _
   | exact ih2 _ _ _ _ _ _ _ _
   | exact impl_has.mono _ _ _
   | exact LeO.none _
   | refine LeO.ite ?_ ?_
   | refine LeO.bind ?_ (fun _ => ?_)
  ·intro y0 y1 y2 y3 y4 y5 y6 y7 y8
   unfold impl_AreTents.j1
   repeat' first
   | (with_reducible exact ih0 _ _ _ _ _)
   | (with_reducible exact ih1 _ _ _ _ _ _ _ _ _)
   | (with_reducible exact ih2 _ _ _ _ _ _ _ _)
   | (with_reducible exact impl_has.mono _ _ _)
   | (with_reducible exact LeO.refl _)
   | (with_reducible exact LeO.none _)
   | (with_reducible refine LeO.ite ?_ ?_)
   | (with_reducible refine LeO.bind ?_ (fun _ => ?_))
   | exact ih0 _ _ _ _ _
   | exact ih1 _ _ _ _ _ _ _ _ _
   | exact ih2 _ _ _ _ _ _ _ _
   | exact impl_has.mono _ _ _
   | exact LeO.none _
   | refine LeO.ite ?_ ?_
   | refine LeO.bind ?_ (fun _ => ?_)
  ·intro y0 y1 y2 y3 y4 y5 y6 y7
   unfold impl_AreTents.l1
   repeat' first
   | (with_reducible exact ih0 _ _ _ _ _)
   | (with_reducible exact ih1 _ _ _ _ _ _ _ _ _)
   | (with_reducible exact ih2 _ _ _ _ _ _ _ _)
   | (with_reducible exact impl_has.mono _ _ _)
   | (with_reducible exact LeO.refl _)
   | (with_reducible exact LeO.none _)
   | (with_reducible refine LeO.ite ?_ ?_)
   | (with_reducible refine LeO.bind ?_ (fun _ => ?_))
   | exact ih0 _ _ _ _ _
   | exact ih1 _ _ _ _ _ _ _ _ _
   | exact ih2 _ _ _ _ _ _ _ _
   | exact impl_has.mono _ _ _
   | exact LeO.none _
   | refine LeO.ite ?_ ?_
   | refine LeO.bind ?_ (fun _ => ?_)
theorem impl_AreTents.mono : ∀ a0 k, LeO (impl_AreTents.f k a0) (impl_AreTents.f (k + 1) a0) := by
 intro a0 k
 obtain ⟨ih0,ih1,ih2⟩:=impl_AreTents.mono_l k
 unfold impl_AreTents.f
 repeat' first
   | (with_reducible exact ih0 _ _ _ _ _)
   | (with_reducible exact ih1 _ _ _ _ _ _ _ _ _)
   | (with_reducible exact ih2 _ _ _ _ _ _ _ _)
   | (with_reducible exact impl_has.mono _ _ _)
   | (with_reducible exact LeO.refl _)
   | (with_reducible exact LeO.none _)
   | (with_reducible refine LeO.ite ?_ ?_)
   | (with_reducible refine LeO.bind ?_ (fun _ => ?_))
   | exact ih0 _ _ _ _ _
   | exact ih1 _ _ _ _ _ _ _ _ _
   | exact ih2 _ _ _ _ _ _ _ _
   | exact impl_has.mono _ _ _
   | exact LeO.none _
   | refine LeO.ite ?_ ?_
   | refine LeO.bind ?_ (fun _ => ?_)
def impl_AreTents.T5 : Bool × List (List Nat × List Nat) := (true, [([], []), ([0], [0]), ([1], [1]), ([2], [2]), ([3, 2], [3]), ([4], [4]), ([5, 4], [4, 5]), ([6, 4, 4], [4, 6]), ([7], [7]), ([8, 7], [7, 8]), ([7], [7]), ([7], [7]), ([11, 7], [7, 11]), ([10, 12, 7], [7, 10, 12]), ([13, 7], [7, 13]), ([14, 7], [7, 14]), ([9, 15, 7], [7, 9, 15]), ([7, 16, 4], [4, 7, 16]), ([4, 17], [4, 17]), ([18, 7], [18]), ([19], [19]), ([20, 19], [19, 20]), ([21, 19, 19], [19, 21]), ([22, 19], [19, 22]), ([19, 23], [19, 23]), ([24, 22], [24]), ([25], [25]), ([26, 25], [25, 26]), ([27, 25], [25, 27]), ([25], [25]), ([29, 25], [25, 29]), ([28, 30, 25], [25, 28, 30]), ([25, 31], [25, 31])])
def impl_AreTents.B5 : List Nat := [0, 1, 3, 7, 15, 31, 63, 127, 255, 511, 255, 255, 2303, 7423, 15615, 31999, 65535, 131071, 262143, 524287, 1048575, 2097151, 4194303, 8388607, 16777215, 33554431, 67108863, 134217727, 268435455, 67108863, 603979775, 2147483647, 4294967295]
theorem impl_AreTents.tab5 : rtab .any (opsOf Try.f21 5) = impl_AreTents.T5 := by kernel_rfl
theorem impl_AreTents.bits5 : waitsOk impl_AreTents.T5.2 impl_AreTents.B5 = true := by kernel_rfl
set_option maxHeartbeats 8000000 in
set_option maxRecDepth 100000 in
theorem impl_AreTents.calls (k : Nat) (A0 : Option Addr) (c0 : Nat) (l0 : List (S45)) (r : Bool) (w : World) (hr0 : Kd.C k45 w A0 l0.length l0) (hc0 : l0.length ≤ c0) (h : impl_AreTents.f k l0 = some r) :
  Calls Try.prog 21 #[.slice A0 l0.length c0] w fun e w' => e = .returned (.bool r) ∧ Below w.heap.size w w':=by
 have hu45:=Try.underlying45;have HR0:=am hr0;have HC0:=am hc0;clear hr0 hc0;have HB:=am qq135;have H : (impl_AreTents.l0 k l0 (([] : List Int)) l0 (l0.length : Int) 0) = some r:=h;clear h;obtain ⟨y103,hy103⟩ : ∃ y_ : List Int,y_ = (([] : List Int)):=⟨_,rfl⟩
 replace H : (impl_AreTents.l0 k l0 y103 l0 (l0.length : Int) 0) = some r:=by first | (rw [hy103];with_reducible exact H) | (have H2_:=(Option.bind_some _ _).symm.trans H;rw [hy103];with_reducible exact H2_) | (have H2_:=(Option.bind_some _ _).symm.trans H;with_reducible exact H2_) | with_reducible exact H | (rw [hy103];exact H) | exact H
 have Ny103:=am hy103;clear hy103;have H':=am H;clear H
 go_enter Try.func21,Try.ntmps21
 go_wp2_with (first | ((with_reducible refine gate_dst (N:=8) rfl ?_);(try (refine gate_guard (by rfl) ?_;dsimp only));refine Kd.R_lit (Kd.int .i64) _ 3 ?hg (N:=8) ?hd (xs:=([] : List Int)) (inner:=[]) (ok:=fun _ => True) (okp:=fun _ => True) ?hr ?hp (fun _ hk => hk) trivial (Below.refl _ _) (Nat.le_refl _) (by simp) ?_;(case hd => rfl);(case hg => rfl);(case hr => exact qq96);(case hp => exact qq106);intro v104 w2 ho3 hb hg_ hnew_;clear hg_ hnew_;(first | rw [← Ny103.out] at ho3 | (simp only [Int.reduceToNat] at ho3;rw [← Ny103.out] at ho3));have HO105:=am (Kd.R_lower ho3 (below_size qq73));replace HB:=am qq138;clear hb ho3))
 go_loopg [3,11] k (fun kq v3 v11 w' => ∃ (x3_1 : List Int) (x11_1 : Int),v11 = .int .i64 x11_1 ∧ Aside0 (impl_AreTents.l0 kq l0 x3_1 l0 (l0.length : Int) x11_1 = some r) ∧ Aside0 (kq ≤ k) ∧ Aside0 (Kd.R (Kd.int .i64) 3 w' w.heap.size (fun _ => True) v3 x3_1) ∧ Aside0 (Below w.heap.size w w'))
 case atStart => exact ⟨(y103),(0),qq95,H',⟨Nat.le_refl _⟩,⟨by (with_reducible repeat (first | apply kA | apply kN | apply kD));exact HO105.out⟩,⟨qq73⟩⟩
 case round =>
  clear H'
  try clear c2
  try clear p2
  obtain ⟨x3_1,x11_1,rfl,HA,HK1,HO_3,HB⟩:=hrel
  cases gk with
  | zero => exact absurd HA.out (by simp [impl_AreTents.l0])
  | succ k1 =>
   have H:=HA.out;clear HA;simp only [impl_AreTents.l0] at H
   by_cases c4 : x11_1 < (l0.length : Int)
   ·rw [if_pos c4] at H;have c4b0 : decide (x11_1 < (l0.length : Int)) = true:=decide_eq_true c4;clear c4
    by_cases c5 : 0 ≤ x11_1
    ·rw [if_pos c5] at H;have c5b0 : decide (0 ≤ x11_1) = true:=decide_eq_true c5;clear c5
     by_cases c6 : x11_1 < (l0.length : Int)
     ·rw [if_pos c6] at H;have c6b0 : decide (x11_1 < (l0.length : Int)) = true:=decide_eq_true c6;clear c6;have HC7:=am H;clear H;have p106 : 0 ≤ (x11_1 : Int):=odt qq94;have q106 : x11_1 < (l0.length : Int):=odt qq94;obtain ⟨ad106,A106_2,c106_2,e106,hx106_0,hx106_1,hx106_2,hl106_2,hi106_2⟩:=at_T45 HR0.out x11_1 p106 q106
      cases e106
      replace hx106_0:=(ct HB.out hx106_0 :)
      replace hx106_1:=(ct HB.out hx106_1 :)
      replace hx106_2:=(ct HB.out hx106_2 :)
      have HR106_2:=am hi106_2;have HC106_2:=am hl106_2;clear hi106_2 hl106_2;replace p106:=eq_true p106;replace q106:=eq_true q106
      go_upto_region 5 with (first | ((with_reducible refine gate_dst (N:=5) rfl ?_);(try (refine gate_guard (by rfl) ?_;dsimp only));refine box_event ?hg (N:=5) ?hd (cs:=#[.int .i64 0,.int .i64 0,.slice none 0 0]) (t:=45) ?hr ?_;(case hd => rfl);(case hg => rfl);(case hr => exact qq96);intro gb107 hg w8 hbox hb;replace HO_3:=am (Kd.R_below qq88 hb);have BK107:=am (hbox);have GW107:=am ((qq44 : w.heap.size ≤ gb107));have GE107:=am ((qq44 : w.heap.size ≤ gb107));replace HB:=am qq138;clear hb hbox hg;obtain ⟨hcz9_0,hcz9_1,hcz9_2,hfz9_0,hfz9_1,hfz9_2⟩:=bcl3 BK107.out))
      (try simp only [Act.put,sA,s0,s1])
      go_cut [48] (fun v48 wc => ∃ (kq : Nat) (x48_6 : Bool),v48 = .bool x48_6 ∧ Aside0 (impl_AreTents.j1 kq l0 x3_1 l0 (l0.length : Int) x11_1 x48_6 ((rd_T45 l0 x11_1).f0) ((rd_T45 l0 x11_1).f1) ((rd_T45 l0 x11_1).f2) = some r) ∧ Aside0 (kq ≤ k1) ∧ Aside0 (Kd.R (Kd.int .i64) 3 wc w.heap.size (fun _ => True) u3 x3_1) ∧ Aside0 (wc.heap[gb107]? = some (.cells #[.int .i64 ((rd_T45 l0 x11_1).f0),.int .i64 ((rd_T45 l0 x11_1).f1),(.slice A106_2 ((rd_T45 l0 x11_1).f2).length c106_2)] 45 (0,0))) ∧ Aside0 (Below w.heap.size w wc))
      case first =>
       have H:=HC7.out;clear HC7;replace H:=bS.mp H;obtain ⟨t108,A100,H⟩:=H;replace H : (if t108 = true then (if x11_1 > 0 then (if 0 ≤ (wrap64 (x11_1 - 1)) then (if (wrap64 (x11_1 - 1)) < (l0.length : Int) then (if ((rd_T45 l0 x11_1).f0) ≤ ((rd_T45 l0 (wrap64 (x11_1 - 1))).f0) then (impl_AreTents.j1 k1 l0 x3_1 l0 (l0.length : Int) x11_1 true ((rd_T45 l0 x11_1).f0) ((rd_T45 l0 x11_1).f1) ((rd_T45 l0 x11_1).f2)) else ((impl_InRange.f ((rd_T45 l0 x11_1).f1) 1 6).bind fun t110 => (if t110 = true then (impl_AreTents.j1 k1 l0 x3_1 l0 (l0.length : Int) x11_1 (decide ((((rd_T45 l0 x11_1).f2).length : Int) > ((rd_T45 l0 x11_1).f1))) ((rd_T45 l0 x11_1).f0) ((rd_T45 l0 x11_1).f1) ((rd_T45 l0 x11_1).f2)) else (impl_AreTents.j1 k1 l0 x3_1 l0 (l0.length : Int) x11_1 true ((rd_T45 l0 x11_1).f0) ((rd_T45 l0 x11_1).f1) ((rd_T45 l0 x11_1).f2))))) else (none)) else (none)) else ((impl_InRange.f ((rd_T45 l0 x11_1).f1) 1 6).bind fun t111 => (if t111 = true then (impl_AreTents.j1 k1 l0 x3_1 l0 (l0.length : Int) x11_1 (decide ((((rd_T45 l0 x11_1).f2).length : Int) > ((rd_T45 l0 x11_1).f1))) ((rd_T45 l0 x11_1).f0) ((rd_T45 l0 x11_1).f1) ((rd_T45 l0 x11_1).f2)) else (impl_AreTents.j1 k1 l0 x3_1 l0 (l0.length : Int) x11_1 true ((rd_T45 l0 x11_1).f0) ((rd_T45 l0 x11_1).f1) ((rd_T45 l0 x11_1).f2))))) else (impl_AreTents.j1 k1 l0 x3_1 l0 (l0.length : Int) x11_1 true ((rd_T45 l0 x11_1).f0) ((rd_T45 l0 x11_1).f1) ((rd_T45 l0 x11_1).f2))) = some r:=H;have A10:=am A100;clear A100
       by_cases c11 : t108 = true
       ·subst c11;have H1 : (if x11_1 > 0 then (if 0 ≤ (wrap64 (x11_1 - 1)) then (if (wrap64 (x11_1 - 1)) < (l0.length : Int) then (if ((rd_T45 l0 x11_1).f0) ≤ ((rd_T45 l0 (wrap64 (x11_1 - 1))).f0) then (impl_AreTents.j1 k1 l0 x3_1 l0 (l0.length : Int) x11_1 true ((rd_T45 l0 x11_1).f0) ((rd_T45 l0 x11_1).f1) ((rd_T45 l0 x11_1).f2)) else ((impl_InRange.f ((rd_T45 l0 x11_1).f1) 1 6).bind fun t110 => (if t110 = true then (impl_AreTents.j1 k1 l0 x3_1 l0 (l0.length : Int) x11_1 (decide ((((rd_T45 l0 x11_1).f2).length : Int) > ((rd_T45 l0 x11_1).f1))) ((rd_T45 l0 x11_1).f0) ((rd_T45 l0 x11_1).f1) ((rd_T45 l0 x11_1).f2)) else (impl_AreTents.j1 k1 l0 x3_1 l0 (l0.length : Int) x11_1 true ((rd_T45 l0 x11_1).f0) ((rd_T45 l0 x11_1).f1) ((rd_T45 l0 x11_1).f2))))) else (none)) else (none)) else ((impl_InRange.f ((rd_T45 l0 x11_1).f1) 1 6).bind fun t111 => (if t111 = true then (impl_AreTents.j1 k1 l0 x3_1 l0 (l0.length : Int) x11_1 (decide ((((rd_T45 l0 x11_1).f2).length : Int) > ((rd_T45 l0 x11_1).f1))) ((rd_T45 l0 x11_1).f0) ((rd_T45 l0 x11_1).f1) ((rd_T45 l0 x11_1).f2)) else (impl_AreTents.j1 k1 l0 x3_1 l0 (l0.length : Int) x11_1 true ((rd_T45 l0 x11_1).f0) ((rd_T45 l0 x11_1).f1) ((rd_T45 l0 x11_1).f2))))) = some r:=by rw [if_pos rfl] at H;exact H
        clear H;have H:=H1;clear H1
        by_cases c12 : x11_1 > 0
        ·rw [if_pos c12] at H;have c12b0 : decide (0 < x11_1) = true:=decide_eq_true c12;clear c12;(first | rw [c12b0] | (simp only [i64_w,i32_w];rw [c12b0]) | skip);obtain ⟨ji13,hji13⟩ : ∃ j_ : Int,(wrap64 (x11_1 - 1)) = j_:=⟨_,rfl⟩
         replace H : (if 0 ≤ (ji13) then (if (ji13) < (l0.length : Int) then (if ((rd_T45 l0 x11_1).f0) ≤ ((rd_T45 l0 (ji13)).f0) then (impl_AreTents.j1 k1 l0 x3_1 l0 (l0.length : Int) x11_1 true ((rd_T45 l0 x11_1).f0) ((rd_T45 l0 x11_1).f1) ((rd_T45 l0 x11_1).f2)) else ((impl_InRange.f ((rd_T45 l0 x11_1).f1) 1 6).bind fun t110 => (if t110 = true then (impl_AreTents.j1 k1 l0 x3_1 l0 (l0.length : Int) x11_1 (decide ((((rd_T45 l0 x11_1).f2).length : Int) > ((rd_T45 l0 x11_1).f1))) ((rd_T45 l0 x11_1).f0) ((rd_T45 l0 x11_1).f1) ((rd_T45 l0 x11_1).f2)) else (impl_AreTents.j1 k1 l0 x3_1 l0 (l0.length : Int) x11_1 true ((rd_T45 l0 x11_1).f0) ((rd_T45 l0 x11_1).f1) ((rd_T45 l0 x11_1).f2))))) else (none)) else (none)) = some r:=by first | (rw [hji13] at H;exact H) | (simp only [hji13] at H ⊢;exact H)
         (try rw [hji13] at A10);have hji13w : (IntKind.i64.wrap (x11_1 - 1)) = ji13:=(i64_w _).trans hji13
         by_cases c14 : 0 ≤ (ji13)
         ·rw [if_pos c14] at H;have c14b0 : decide (0 ≤ (ji13)) = true:=decide_eq_true c14;clear c14
          by_cases c15 : (ji13) < (l0.length : Int)
          ·rw [if_pos c15] at H;have c15b0 : decide ((ji13) < (l0.length : Int)) = true:=decide_eq_true c15;clear c15
           by_cases c16 : ((rd_T45 l0 x11_1).f0) ≤ ((rd_T45 l0 (ji13)).f0)
           ·rw [if_pos c16] at H;have c16b0 : decide (((rd_T45 l0 x11_1).f0) ≤ ((rd_T45 l0 (ji13)).f0)) = true:=decide_eq_true c16;clear c16;have H':=am H;clear H
            try go_wp2
            have n0_ : Aside0 (Kd.R (Kd.int .i64) 3 (((w8.setCell ⟨gb107,0,none⟩ (.int .i64 ((rd_T45 l0 x11_1).f0))).setCell ⟨gb107,1,none⟩ (.int .i64 ((rd_T45 l0 x11_1).f1))).setCell ⟨gb107,2,none⟩ (.slice A106_2 ((rd_T45 l0 x11_1).f2).length c106_2)) w.heap.size (fun _ => True) u3 x3_1):=⟨qq3⟩
            have n1_ : Aside0 ((((w8.setCell ⟨gb107,0,none⟩ (.int .i64 ((rd_T45 l0 x11_1).f0))).setCell ⟨gb107,1,none⟩ (.int .i64 ((rd_T45 l0 x11_1).f1))).setCell ⟨gb107,2,none⟩ (.slice A106_2 ((rd_T45 l0 x11_1).f2).length c106_2)).heap[gb107]? = some (.cells #[.int .i64 ((rd_T45 l0 x11_1).f0),.int .i64 ((rd_T45 l0 x11_1).f1),.slice A106_2 ((rd_T45 l0 x11_1).f2).length c106_2] 45 (0,0))):=⟨qq2⟩
            have n2_ : Aside0 (Below w.heap.size w (((w8.setCell ⟨gb107,0,none⟩ (.int .i64 ((rd_T45 l0 x11_1).f0))).setCell ⟨gb107,1,none⟩ (.int .i64 ((rd_T45 l0 x11_1).f1))).setCell ⟨gb107,2,none⟩ (.slice A106_2 ((rd_T45 l0 x11_1).f2).length c106_2))):=⟨qq49⟩
            (try clear HO_3);(try clear BK107);(try clear HB)
            generalize (((w8.setCell ⟨gb107,0,none⟩ (.int .i64 ((rd_T45 l0 x11_1).f0))).setCell ⟨gb107,1,none⟩ (.int .i64 ((rd_T45 l0 x11_1).f1))).setCell ⟨gb107,2,none⟩ (.slice A106_2 ((rd_T45 l0 x11_1).f2).length c106_2)) = w17 at n0_ n1_ n2_ ⊢
            have HO_3:=n0_;have BK107:=n1_;have HB:=n2_;clear n0_ n1_ n2_;replace HO_3:=am qq139;replace BK107:=am qq140;replace HB:=am qq141;have p109 : 0 ≤ ((ji13) : Int):=odt qq94;have q109 : (ji13) < (l0.length : Int):=odt qq94;obtain ⟨ad109,A109_2,c109_2,e109,hx109_0,hx109_1,hx109_2,hl109_2,hi109_2⟩:=at_T45 HR0.out (ji13) p109 q109;have hw109_2:=hx109_2;have hw109_1:=hx109_1;have hw109_0:=hx109_0;obtain rfl : ad106 = ad109:=(by injection e109)
            replace hx109_0:=(ct HB.out hx109_0 :)
            replace hx109_1:=(ct HB.out hx109_1 :)
            replace hx109_2:=(ct HB.out hx109_2 :)
            have HR109_2:=am hi109_2;have HC109_2:=am hl109_2;clear hi109_2 hl109_2;replace p109:=eq_true p109;replace q109:=eq_true q109;refine start_ (n:=33) (S:=fun w' => w'.cell? ⟨gb107,0,none⟩ = some (.int .i64 ((rd_T45 l0 x11_1).f0)) ∧ w'.cell? ⟨gb107,1,none⟩ = some (.int .i64 ((rd_T45 l0 x11_1).f1)) ∧ w'.cell? ⟨gb107,2,none⟩ = some (.slice A106_2 ((rd_T45 l0 x11_1).f2).length c106_2) ∧ w'.cell? (ad106.add (((ji13)).toNat * 3)) = some (.int .i64 ((rd_T45 l0 (ji13)).f0)) ∧ w'.cell? ⟨(ad106.add (((ji13)).toNat * 3)).block,(ad106.add (((ji13)).toNat * 3)).off + 1,none⟩ = some (.int .i64 ((rd_T45 l0 (ji13)).f1)) ∧ w'.cell? ⟨(ad106.add (((ji13)).toNat * 3)).block,(ad106.add (((ji13)).toNat * 3)).off + 2,none⟩ = some (.slice A109_2 ((rd_T45 l0 (ji13)).f2).length c109_2)) (ds:=[]) m0_2 (by kernel_rfl) rfl rfl ⟨(blk_cell BK107.out 0).trans rfl,(blk_cell BK107.out 1).trans rfl,(blk_cell BK107.out 2).trans rfl,(ct HB.out hw109_0 :),(ct HB.out hw109_1 :),(ct HB.out hw109_2 :)⟩ (fun hHeld => ?_);refine with_tabW impl_AreTents.tab5 impl_AreTents.bits5 (fun HT_ HW_ => ?_)
            generalize w17.drew = w18 at HO_3 BK107 HB HR109_2 hx109_0 hx109_1 hx109_2 hHeld ⊢
            refine pV (i:=0) (N:=some 16) m1_2 rfl rfl qT ?_
            refine tV6 (i:=1) (N:=some 17) m2_2 rfl rfl (take_ofW HT_.out HW_.out (by kernel_rfl)) hHeld ?_
            refine one_ (i:=2) (N:=some 18) m3_2 rfl rfl (one_of HT_.out (by kernel_rfl)) (by decide) (fun K hK => ?_);refine goes_ Try.func41 (by kernel_rfl) rfl #[.int .i64 ((rd_T45 l0 x11_1).f0),.int .i64 1,.int .i64 99] (by rfl) rfl rfl qq50 ?_;with_reducible refine (impl_InRange.calls ((rd_T45 l0 x11_1).f0) 1 99 true _ A10.out).mono ?_
            rintro e w' ⟨rfl,⟨nd,rfl⟩⟩
            refine ⟨_,rfl,?_⟩;refine hK.out _ _ ⟨(blk_cell BK107.out 0).trans rfl,(blk_cell BK107.out 1).trans rfl,(blk_cell BK107.out 2).trans rfl,(ct HB.out hw109_0 :),(ct HB.out hw109_1 :),(ct HB.out hw109_2 :)⟩ (fun hHeld => ?_);clear hK K;refine norm_ (a':=?_) ?_ ?_;rotate_left
            ·show Act.put _ (some 18) _ = _
             simp only [Act.put,sA,s0,s1,i64_w,i32_w];rfl
            refine pV (i:=3) (N:=some 19) m4_2 rfl rfl qT ?_
            refine pV (i:=4) (N:=some 20) m5_2 rfl rfl qT ?_
            refine pV (i:=5) (N:=some 21) m6_2 rfl rfl qT ?_
            refine pV (i:=6) (N:=some 22) m7_2 rfl rfl qT ?_
            refine pV (i:=7) (N:=some 23) m8_2 rfl rfl qT ?_
            refine pV (i:=8) (N:=some 24) m9_2 rfl rfl qT ?_
            refine pV (i:=10) (N:=some 26) m10_2 rfl rfl qT ?_
            refine pV (i:=11) (N:=some 27) m11_2 rfl rfl qT ?_
            refine pV (i:=12) (N:=some 28) m12_2 rfl rfl qT ?_
            refine pV (i:=13) (N:=some 29) m13_2 rfl rfl qT ?_
            refine pV (i:=14) (N:=some 30) m14_2 rfl rfl qT ?_
            refine tV6 (i:=9) (N:=some 25) m15_2 rfl rfl (take_ofW HT_.out HW_.out (by kernel_rfl)) hHeld ?_
            refine tV6 (i:=15) (N:=some 31) m16_2 rfl rfl (take_ofW HT_.out HW_.out (by kernel_rfl)) hHeld ?_
            refine pV (i:=16) (N:=some 32) m17_2 rfl rfl qT ?_
            refine pV (i:=17) (N:=some 33) m18_2 rfl rfl qT ?_
            refine pV (i:=18) (N:=some 34) m19_2 rfl rfl qT ?_
            refine pV (i:=19) (N:=some 35) m20_2 rfl rfl qT ?_
            refine pW (i:=20) (N:=some 36) m21_2 rfl rfl qT ?_
            refine pW (i:=21) (N:=some 37) m22_2 rfl rfl qT ?_
            refine pW (i:=22) (N:=some 38) m23_2 rfl rfl qT ?_
            refine pW (i:=23) (N:=some 39) m24_2 rfl rfl qT ?_
            refine pV (i:=24) (N:=some 40) m25_2 rfl rfl qT ?_
            refine pV (i:=25) (N:=some 41) m26_2 rfl rfl qT ?_
            refine pW (i:=26) (N:=some 42) m27_2 rfl rfl qT ?_
            refine pW (i:=27) (N:=some 43) m28_2 rfl rfl qT ?_
            refine pW (i:=28) (N:=some 44) m29_2 rfl rfl qT ?_
            refine pW (i:=29) (N:=some 45) m30_2 rfl rfl qT ?_
            refine pW (i:=30) (N:=some 46) m31_2 rfl rfl qT ?_
            refine pW (i:=31) (N:=some 47) m32_2 rfl rfl qT ?_
            refine pV (i:=32) (N:=some 48) m33_2 rfl rfl qT ?_
            refine done_ (done_of HT_.out (by kernel_rfl)) ?_
            try go_wp2
            go_meet
            case rel => exact ⟨_,(true),qq95,H',⟨qq93⟩,⟨qq88⟩,⟨qq80⟩,⟨qq49⟩⟩
           ·rw [if_neg c16] at H;have c16b0 : decide (((rd_T45 l0 x11_1).f0) ≤ ((rd_T45 l0 (ji13)).f0)) = false:=decide_eq_false c16;clear c16;replace H:=bS.mp H;obtain ⟨t110,A190,H⟩:=H;replace H : (if t110 = true then (impl_AreTents.j1 k1 l0 x3_1 l0 (l0.length : Int) x11_1 (decide ((((rd_T45 l0 x11_1).f2).length : Int) > ((rd_T45 l0 x11_1).f1))) ((rd_T45 l0 x11_1).f0) ((rd_T45 l0 x11_1).f1) ((rd_T45 l0 x11_1).f2)) else (impl_AreTents.j1 k1 l0 x3_1 l0 (l0.length : Int) x11_1 true ((rd_T45 l0 x11_1).f0) ((rd_T45 l0 x11_1).f1) ((rd_T45 l0 x11_1).f2))) = some r:=H;have A19:=am A190;clear A190
            by_cases c20 : t110 = true
            ·subst c20;have H1 : (impl_AreTents.j1 k1 l0 x3_1 l0 (l0.length : Int) x11_1 (decide ((((rd_T45 l0 x11_1).f2).length : Int) > ((rd_T45 l0 x11_1).f1))) ((rd_T45 l0 x11_1).f0) ((rd_T45 l0 x11_1).f1) ((rd_T45 l0 x11_1).f2)) = some r:=by rw [if_pos rfl] at H;exact H
             clear H;have H:=H1;clear H1;have H':=am H;clear H
             try go_wp2
             have n0_ : Aside0 (Kd.R (Kd.int .i64) 3 (((w8.setCell ⟨gb107,0,none⟩ (.int .i64 ((rd_T45 l0 x11_1).f0))).setCell ⟨gb107,1,none⟩ (.int .i64 ((rd_T45 l0 x11_1).f1))).setCell ⟨gb107,2,none⟩ (.slice A106_2 ((rd_T45 l0 x11_1).f2).length c106_2)) w.heap.size (fun _ => True) u3 x3_1):=⟨qq3⟩
             have n1_ : Aside0 ((((w8.setCell ⟨gb107,0,none⟩ (.int .i64 ((rd_T45 l0 x11_1).f0))).setCell ⟨gb107,1,none⟩ (.int .i64 ((rd_T45 l0 x11_1).f1))).setCell ⟨gb107,2,none⟩ (.slice A106_2 ((rd_T45 l0 x11_1).f2).length c106_2)).heap[gb107]? = some (.cells #[.int .i64 ((rd_T45 l0 x11_1).f0),.int .i64 ((rd_T45 l0 x11_1).f1),.slice A106_2 ((rd_T45 l0 x11_1).f2).length c106_2] 45 (0,0))):=⟨qq2⟩
             have n2_ : Aside0 (Below w.heap.size w (((w8.setCell ⟨gb107,0,none⟩ (.int .i64 ((rd_T45 l0 x11_1).f0))).setCell ⟨gb107,1,none⟩ (.int .i64 ((rd_T45 l0 x11_1).f1))).setCell ⟨gb107,2,none⟩ (.slice A106_2 ((rd_T45 l0 x11_1).f2).length c106_2))):=⟨qq49⟩
             (try clear HO_3);(try clear BK107);(try clear HB)
             generalize (((w8.setCell ⟨gb107,0,none⟩ (.int .i64 ((rd_T45 l0 x11_1).f0))).setCell ⟨gb107,1,none⟩ (.int .i64 ((rd_T45 l0 x11_1).f1))).setCell ⟨gb107,2,none⟩ (.slice A106_2 ((rd_T45 l0 x11_1).f2).length c106_2)) = w21 at n0_ n1_ n2_ ⊢
             have HO_3:=n0_;have BK107:=n1_;have HB:=n2_;clear n0_ n1_ n2_;replace HO_3:=am qq139;replace BK107:=am qq140;replace HB:=am qq141;have p109 : 0 ≤ ((ji13) : Int):=odt qq94;have q109 : (ji13) < (l0.length : Int):=odt qq94;obtain ⟨ad109,A109_2,c109_2,e109,hx109_0,hx109_1,hx109_2,hl109_2,hi109_2⟩:=at_T45 HR0.out (ji13) p109 q109;have hw109_2:=hx109_2;have hw109_1:=hx109_1;have hw109_0:=hx109_0;obtain rfl : ad106 = ad109:=(by injection e109)
             replace hx109_0:=(ct HB.out hx109_0 :)
             replace hx109_1:=(ct HB.out hx109_1 :)
             replace hx109_2:=(ct HB.out hx109_2 :)
             have HR109_2:=am hi109_2;have HC109_2:=am hl109_2;clear hi109_2 hl109_2;replace p109:=eq_true p109;replace q109:=eq_true q109;refine start_ (n:=33) (S:=fun w' => w'.cell? ⟨gb107,0,none⟩ = some (.int .i64 ((rd_T45 l0 x11_1).f0)) ∧ w'.cell? ⟨gb107,1,none⟩ = some (.int .i64 ((rd_T45 l0 x11_1).f1)) ∧ w'.cell? ⟨gb107,2,none⟩ = some (.slice A106_2 ((rd_T45 l0 x11_1).f2).length c106_2) ∧ w'.cell? (ad106.add (((ji13)).toNat * 3)) = some (.int .i64 ((rd_T45 l0 (ji13)).f0)) ∧ w'.cell? ⟨(ad106.add (((ji13)).toNat * 3)).block,(ad106.add (((ji13)).toNat * 3)).off + 1,none⟩ = some (.int .i64 ((rd_T45 l0 (ji13)).f1)) ∧ w'.cell? ⟨(ad106.add (((ji13)).toNat * 3)).block,(ad106.add (((ji13)).toNat * 3)).off + 2,none⟩ = some (.slice A109_2 ((rd_T45 l0 (ji13)).f2).length c109_2)) (ds:=[]) m0_2 (by kernel_rfl) rfl rfl ⟨(blk_cell BK107.out 0).trans rfl,(blk_cell BK107.out 1).trans rfl,(blk_cell BK107.out 2).trans rfl,(ct HB.out hw109_0 :),(ct HB.out hw109_1 :),(ct HB.out hw109_2 :)⟩ (fun hHeld => ?_);refine with_tabW impl_AreTents.tab5 impl_AreTents.bits5 (fun HT_ HW_ => ?_)
             generalize w21.drew = w22 at HO_3 BK107 HB HR109_2 hx109_0 hx109_1 hx109_2 hHeld ⊢
             refine pV (i:=0) (N:=some 16) m1_2 rfl rfl qT ?_
             refine tV6 (i:=1) (N:=some 17) m2_2 rfl rfl (take_ofW HT_.out HW_.out (by kernel_rfl)) hHeld ?_
             refine one_ (i:=2) (N:=some 18) m3_2 rfl rfl (one_of HT_.out (by kernel_rfl)) (by decide) (fun K hK => ?_);refine goes_ Try.func41 (by kernel_rfl) rfl #[.int .i64 ((rd_T45 l0 x11_1).f0),.int .i64 1,.int .i64 99] (by rfl) rfl rfl qq50 ?_;with_reducible refine (impl_InRange.calls ((rd_T45 l0 x11_1).f0) 1 99 true _ A10.out).mono ?_
             rintro e w' ⟨rfl,⟨nd,rfl⟩⟩
             refine ⟨_,rfl,?_⟩;refine hK.out _ _ ⟨(blk_cell BK107.out 0).trans rfl,(blk_cell BK107.out 1).trans rfl,(blk_cell BK107.out 2).trans rfl,(ct HB.out hw109_0 :),(ct HB.out hw109_1 :),(ct HB.out hw109_2 :)⟩ (fun hHeld => ?_);clear hK K;refine norm_ (a':=?_) ?_ ?_;rotate_left
             ·show Act.put _ (some 18) _ = _
              simp only [Act.put,sA,s0,s1,i64_w,i32_w];rfl
             refine pV (i:=3) (N:=some 19) m4_2 rfl rfl qT ?_
             refine pV (i:=4) (N:=some 20) m5_2 rfl rfl qT ?_
             refine pV (i:=5) (N:=some 21) m6_2 rfl rfl qT ?_
             refine pV (i:=6) (N:=some 22) m7_2 rfl rfl qT ?_
             refine pV (i:=7) (N:=some 23) m8_2 rfl rfl qT ?_
             refine pV (i:=8) (N:=some 24) m9_2 rfl rfl qT ?_
             refine pV (i:=10) (N:=some 26) m10_2 rfl rfl qT ?_
             refine pV (i:=11) (N:=some 27) m11_2 rfl rfl qT ?_
             refine pV (i:=12) (N:=some 28) m12_2 rfl rfl qT ?_
             refine pV (i:=13) (N:=some 29) m13_2 rfl rfl qT ?_
             refine pV (i:=14) (N:=some 30) m14_2 rfl rfl qT ?_
             refine tV6 (i:=9) (N:=some 25) m15_2 rfl rfl (take_ofW HT_.out HW_.out (by kernel_rfl)) hHeld ?_
             refine tV6 (i:=15) (N:=some 31) m16_2 rfl rfl (take_ofW HT_.out HW_.out (by kernel_rfl)) hHeld ?_
             refine pV (i:=16) (N:=some 32) m17_2 rfl rfl qT ?_
             refine pV (i:=17) (N:=some 33) m18_2 rfl rfl qT ?_
             refine pV (i:=18) (N:=some 34) m19_2 rfl rfl qT ?_
             refine pV (i:=19) (N:=some 35) m20_2 rfl rfl qT ?_
             refine pV (i:=20) (N:=some 36) m21_2 rfl rfl qT ?_
             refine tV6 (i:=21) (N:=some 37) m22_2 rfl rfl (take_ofW HT_.out HW_.out (by kernel_rfl)) hHeld ?_
             refine one_ (i:=22) (N:=some 38) m23_2 rfl rfl (one_of HT_.out (by kernel_rfl)) (by decide) (fun K hK => ?_);refine goes_ Try.func41 (by kernel_rfl) rfl #[.int .i64 ((rd_T45 l0 x11_1).f1),.int .i64 1,.int .i64 6] (by rfl) rfl rfl qq50 ?_;with_reducible refine (impl_InRange.calls ((rd_T45 l0 x11_1).f1) 1 6 true _ A19.out).mono ?_
             rintro e w' ⟨rfl,⟨nd,rfl⟩⟩
             refine ⟨_,rfl,?_⟩;refine hK.out _ _ ⟨(blk_cell BK107.out 0).trans rfl,(blk_cell BK107.out 1).trans rfl,(blk_cell BK107.out 2).trans rfl,(ct HB.out hw109_0 :),(ct HB.out hw109_1 :),(ct HB.out hw109_2 :)⟩ (fun hHeld => ?_);clear hK K;refine norm_ (a':=?_) ?_ ?_;rotate_left
             ·show Act.put _ (some 38) _ = _
              simp only [Act.put,sA,s0,s1,i64_w,i32_w];rfl
             refine pV (i:=23) (N:=some 39) m24_2 rfl rfl qT ?_
             refine pV (i:=24) (N:=some 40) m25_2 rfl rfl qT ?_
             refine pV (i:=25) (N:=some 41) m26_2 rfl rfl qT ?_
             refine pV (i:=26) (N:=some 42) m27_2 rfl rfl qT ?_
             refine pV (i:=29) (N:=some 45) m34_2 rfl rfl qT ?_
             refine tV6 (i:=27) (N:=some 43) m35_2 rfl rfl (take_ofW HT_.out HW_.out (by kernel_rfl)) hHeld ?_
             refine pV (i:=28) (N:=some 44) m30_2 rfl rfl qT ?_
             refine tV6 (i:=30) (N:=some 46) m31_2 rfl rfl (take_ofW HT_.out HW_.out (by kernel_rfl)) hHeld ?_
             refine pV (i:=31) (N:=some 47) m32_2 rfl rfl qT ?_
             refine pV (i:=32) (N:=some 48) m33_2 rfl rfl qT ?_
             refine done_ (done_of HT_.out (by kernel_rfl)) ?_
             try go_wp2
             go_meet
             case rel => exact ⟨_,(decide ((((rd_T45 l0 x11_1).f2).length : Int) > ((rd_T45 l0 x11_1).f1))),qq95,H',⟨qq93⟩,⟨qq88⟩,⟨qq80⟩,⟨qq49⟩⟩
            ·replace c20:=Bool.eq_false_iff.mpr c20;subst c20;have H1 : (impl_AreTents.j1 k1 l0 x3_1 l0 (l0.length : Int) x11_1 true ((rd_T45 l0 x11_1).f0) ((rd_T45 l0 x11_1).f1) ((rd_T45 l0 x11_1).f2)) = some r:=by rw [if_neg (show ¬ (false = true) by decide)] at H;exact H
             clear H;have H:=H1;clear H1;have H':=am H;clear H
             try go_wp2
             have n0_ : Aside0 (Kd.R (Kd.int .i64) 3 (((w8.setCell ⟨gb107,0,none⟩ (.int .i64 ((rd_T45 l0 x11_1).f0))).setCell ⟨gb107,1,none⟩ (.int .i64 ((rd_T45 l0 x11_1).f1))).setCell ⟨gb107,2,none⟩ (.slice A106_2 ((rd_T45 l0 x11_1).f2).length c106_2)) w.heap.size (fun _ => True) u3 x3_1):=⟨qq3⟩
             have n1_ : Aside0 ((((w8.setCell ⟨gb107,0,none⟩ (.int .i64 ((rd_T45 l0 x11_1).f0))).setCell ⟨gb107,1,none⟩ (.int .i64 ((rd_T45 l0 x11_1).f1))).setCell ⟨gb107,2,none⟩ (.slice A106_2 ((rd_T45 l0 x11_1).f2).length c106_2)).heap[gb107]? = some (.cells #[.int .i64 ((rd_T45 l0 x11_1).f0),.int .i64 ((rd_T45 l0 x11_1).f1),.slice A106_2 ((rd_T45 l0 x11_1).f2).length c106_2] 45 (0,0))):=⟨qq2⟩
             have n2_ : Aside0 (Below w.heap.size w (((w8.setCell ⟨gb107,0,none⟩ (.int .i64 ((rd_T45 l0 x11_1).f0))).setCell ⟨gb107,1,none⟩ (.int .i64 ((rd_T45 l0 x11_1).f1))).setCell ⟨gb107,2,none⟩ (.slice A106_2 ((rd_T45 l0 x11_1).f2).length c106_2))):=⟨qq49⟩
             (try clear HO_3);(try clear BK107);(try clear HB)
             generalize (((w8.setCell ⟨gb107,0,none⟩ (.int .i64 ((rd_T45 l0 x11_1).f0))).setCell ⟨gb107,1,none⟩ (.int .i64 ((rd_T45 l0 x11_1).f1))).setCell ⟨gb107,2,none⟩ (.slice A106_2 ((rd_T45 l0 x11_1).f2).length c106_2)) = w23 at n0_ n1_ n2_ ⊢
             have HO_3:=n0_;have BK107:=n1_;have HB:=n2_;clear n0_ n1_ n2_;replace HO_3:=am qq139;replace BK107:=am qq140;replace HB:=am qq141;have p109 : 0 ≤ ((ji13) : Int):=odt qq94;have q109 : (ji13) < (l0.length : Int):=odt qq94;obtain ⟨ad109,A109_2,c109_2,e109,hx109_0,hx109_1,hx109_2,hl109_2,hi109_2⟩:=at_T45 HR0.out (ji13) p109 q109;have hw109_2:=hx109_2;have hw109_1:=hx109_1;have hw109_0:=hx109_0;obtain rfl : ad106 = ad109:=(by injection e109)
             replace hx109_0:=(ct HB.out hx109_0 :)
             replace hx109_1:=(ct HB.out hx109_1 :)
             replace hx109_2:=(ct HB.out hx109_2 :)
             have HR109_2:=am hi109_2;have HC109_2:=am hl109_2;clear hi109_2 hl109_2;replace p109:=eq_true p109;replace q109:=eq_true q109;refine start_ (n:=33) (S:=fun w' => w'.cell? ⟨gb107,0,none⟩ = some (.int .i64 ((rd_T45 l0 x11_1).f0)) ∧ w'.cell? ⟨gb107,1,none⟩ = some (.int .i64 ((rd_T45 l0 x11_1).f1)) ∧ w'.cell? ⟨gb107,2,none⟩ = some (.slice A106_2 ((rd_T45 l0 x11_1).f2).length c106_2) ∧ w'.cell? (ad106.add (((ji13)).toNat * 3)) = some (.int .i64 ((rd_T45 l0 (ji13)).f0)) ∧ w'.cell? ⟨(ad106.add (((ji13)).toNat * 3)).block,(ad106.add (((ji13)).toNat * 3)).off + 1,none⟩ = some (.int .i64 ((rd_T45 l0 (ji13)).f1)) ∧ w'.cell? ⟨(ad106.add (((ji13)).toNat * 3)).block,(ad106.add (((ji13)).toNat * 3)).off + 2,none⟩ = some (.slice A109_2 ((rd_T45 l0 (ji13)).f2).length c109_2)) (ds:=[]) m0_2 (by kernel_rfl) rfl rfl ⟨(blk_cell BK107.out 0).trans rfl,(blk_cell BK107.out 1).trans rfl,(blk_cell BK107.out 2).trans rfl,(ct HB.out hw109_0 :),(ct HB.out hw109_1 :),(ct HB.out hw109_2 :)⟩ (fun hHeld => ?_);refine with_tabW impl_AreTents.tab5 impl_AreTents.bits5 (fun HT_ HW_ => ?_)
             generalize w23.drew = w24 at HO_3 BK107 HB HR109_2 hx109_0 hx109_1 hx109_2 hHeld ⊢
             refine pV (i:=0) (N:=some 16) m1_2 rfl rfl qT ?_
             refine tV6 (i:=1) (N:=some 17) m2_2 rfl rfl (take_ofW HT_.out HW_.out (by kernel_rfl)) hHeld ?_
             refine one_ (i:=2) (N:=some 18) m3_2 rfl rfl (one_of HT_.out (by kernel_rfl)) (by decide) (fun K hK => ?_);refine goes_ Try.func41 (by kernel_rfl) rfl #[.int .i64 ((rd_T45 l0 x11_1).f0),.int .i64 1,.int .i64 99] (by rfl) rfl rfl qq50 ?_;with_reducible refine (impl_InRange.calls ((rd_T45 l0 x11_1).f0) 1 99 true _ A10.out).mono ?_
             rintro e w' ⟨rfl,⟨nd,rfl⟩⟩
             refine ⟨_,rfl,?_⟩;refine hK.out _ _ ⟨(blk_cell BK107.out 0).trans rfl,(blk_cell BK107.out 1).trans rfl,(blk_cell BK107.out 2).trans rfl,(ct HB.out hw109_0 :),(ct HB.out hw109_1 :),(ct HB.out hw109_2 :)⟩ (fun hHeld => ?_);clear hK K;refine norm_ (a':=?_) ?_ ?_;rotate_left
             ·show Act.put _ (some 18) _ = _
              simp only [Act.put,sA,s0,s1,i64_w,i32_w];rfl
             refine pV (i:=3) (N:=some 19) m4_2 rfl rfl qT ?_
             refine pV (i:=4) (N:=some 20) m5_2 rfl rfl qT ?_
             refine pV (i:=5) (N:=some 21) m6_2 rfl rfl qT ?_
             refine pV (i:=6) (N:=some 22) m7_2 rfl rfl qT ?_
             refine pV (i:=7) (N:=some 23) m8_2 rfl rfl qT ?_
             refine pV (i:=8) (N:=some 24) m9_2 rfl rfl qT ?_
             refine pV (i:=10) (N:=some 26) m10_2 rfl rfl qT ?_
             refine pV (i:=11) (N:=some 27) m11_2 rfl rfl qT ?_
             refine pV (i:=12) (N:=some 28) m12_2 rfl rfl qT ?_
             refine pV (i:=13) (N:=some 29) m13_2 rfl rfl qT ?_
             refine pV (i:=14) (N:=some 30) m14_2 rfl rfl qT ?_
             refine tV6 (i:=9) (N:=some 25) m15_2 rfl rfl (take_ofW HT_.out HW_.out (by kernel_rfl)) hHeld ?_
             refine tV6 (i:=15) (N:=some 31) m16_2 rfl rfl (take_ofW HT_.out HW_.out (by kernel_rfl)) hHeld ?_
             refine pV (i:=16) (N:=some 32) m17_2 rfl rfl qT ?_
             refine pV (i:=17) (N:=some 33) m18_2 rfl rfl qT ?_
             refine pV (i:=18) (N:=some 34) m19_2 rfl rfl qT ?_
             refine pV (i:=19) (N:=some 35) m20_2 rfl rfl qT ?_
             refine pV (i:=20) (N:=some 36) m21_2 rfl rfl qT ?_
             refine tV6 (i:=21) (N:=some 37) m22_2 rfl rfl (take_ofW HT_.out HW_.out (by kernel_rfl)) hHeld ?_
             refine one_ (i:=22) (N:=some 38) m23_2 rfl rfl (one_of HT_.out (by kernel_rfl)) (by decide) (fun K hK => ?_);refine goes_ Try.func41 (by kernel_rfl) rfl #[.int .i64 ((rd_T45 l0 x11_1).f1),.int .i64 1,.int .i64 6] (by rfl) rfl rfl qq50 ?_;with_reducible refine (impl_InRange.calls ((rd_T45 l0 x11_1).f1) 1 6 false _ A19.out).mono ?_
             rintro e w' ⟨rfl,⟨nd,rfl⟩⟩
             refine ⟨_,rfl,?_⟩;refine hK.out _ _ ⟨(blk_cell BK107.out 0).trans rfl,(blk_cell BK107.out 1).trans rfl,(blk_cell BK107.out 2).trans rfl,(ct HB.out hw109_0 :),(ct HB.out hw109_1 :),(ct HB.out hw109_2 :)⟩ (fun hHeld => ?_);clear hK K;refine norm_ (a':=?_) ?_ ?_;rotate_left
             ·show Act.put _ (some 38) _ = _
              simp only [Act.put,sA,s0,s1,i64_w,i32_w];rfl
             refine pV (i:=23) (N:=some 39) m24_2 rfl rfl qT ?_
             refine pV (i:=24) (N:=some 40) m25_2 rfl rfl qT ?_
             refine pV (i:=25) (N:=some 41) m26_2 rfl rfl qT ?_
             refine pW (i:=26) (N:=some 42) m27_2 rfl rfl qT ?_
             refine pW (i:=27) (N:=some 43) m28_2 rfl rfl qT ?_
             refine pW (i:=28) (N:=some 44) m29_2 rfl rfl qT ?_
             refine pW (i:=29) (N:=some 45) m30_2 rfl rfl qT ?_
             refine pW (i:=30) (N:=some 46) m31_2 rfl rfl qT ?_
             refine pW (i:=31) (N:=some 47) m32_2 rfl rfl qT ?_
             refine pV (i:=32) (N:=some 48) m33_2 rfl rfl qT ?_
             refine done_ (done_of HT_.out (by kernel_rfl)) ?_
             try go_wp2
             go_meet
             case rel => exact ⟨_,(true),qq95,H',⟨qq93⟩,⟨qq88⟩,⟨qq80⟩,⟨qq49⟩⟩
          ·rw [if_neg c15] at H;exact absurd H (by simp)
         ·rw [if_neg c14] at H;exact absurd H (by simp)
        ·rw [if_neg c12] at H;have c12b0 : decide (0 < x11_1) = false:=decide_eq_false c12;clear c12;(first | rw [c12b0] | (simp only [i64_w,i32_w];rw [c12b0]) | skip);replace H:=bS.mp H;obtain ⟨t111,A250,H⟩:=H;replace H : (if t111 = true then (impl_AreTents.j1 k1 l0 x3_1 l0 (l0.length : Int) x11_1 (decide ((((rd_T45 l0 x11_1).f2).length : Int) > ((rd_T45 l0 x11_1).f1))) ((rd_T45 l0 x11_1).f0) ((rd_T45 l0 x11_1).f1) ((rd_T45 l0 x11_1).f2)) else (impl_AreTents.j1 k1 l0 x3_1 l0 (l0.length : Int) x11_1 true ((rd_T45 l0 x11_1).f0) ((rd_T45 l0 x11_1).f1) ((rd_T45 l0 x11_1).f2))) = some r:=H;have A25:=am A250;clear A250
         by_cases c26 : t111 = true
         ·subst c26;have H1 : (impl_AreTents.j1 k1 l0 x3_1 l0 (l0.length : Int) x11_1 (decide ((((rd_T45 l0 x11_1).f2).length : Int) > ((rd_T45 l0 x11_1).f1))) ((rd_T45 l0 x11_1).f0) ((rd_T45 l0 x11_1).f1) ((rd_T45 l0 x11_1).f2)) = some r:=by rw [if_pos rfl] at H;exact H
          clear H;have H:=H1;clear H1;have H':=am H;clear H
          try go_wp2
          have n0_ : Aside0 (Kd.R (Kd.int .i64) 3 (((w8.setCell ⟨gb107,0,none⟩ (.int .i64 ((rd_T45 l0 x11_1).f0))).setCell ⟨gb107,1,none⟩ (.int .i64 ((rd_T45 l0 x11_1).f1))).setCell ⟨gb107,2,none⟩ (.slice A106_2 ((rd_T45 l0 x11_1).f2).length c106_2)) w.heap.size (fun _ => True) u3 x3_1):=⟨qq3⟩
          have n1_ : Aside0 ((((w8.setCell ⟨gb107,0,none⟩ (.int .i64 ((rd_T45 l0 x11_1).f0))).setCell ⟨gb107,1,none⟩ (.int .i64 ((rd_T45 l0 x11_1).f1))).setCell ⟨gb107,2,none⟩ (.slice A106_2 ((rd_T45 l0 x11_1).f2).length c106_2)).heap[gb107]? = some (.cells #[.int .i64 ((rd_T45 l0 x11_1).f0),.int .i64 ((rd_T45 l0 x11_1).f1),.slice A106_2 ((rd_T45 l0 x11_1).f2).length c106_2] 45 (0,0))):=⟨qq2⟩
          have n2_ : Aside0 (Below w.heap.size w (((w8.setCell ⟨gb107,0,none⟩ (.int .i64 ((rd_T45 l0 x11_1).f0))).setCell ⟨gb107,1,none⟩ (.int .i64 ((rd_T45 l0 x11_1).f1))).setCell ⟨gb107,2,none⟩ (.slice A106_2 ((rd_T45 l0 x11_1).f2).length c106_2))):=⟨qq49⟩
          (try clear HO_3);(try clear BK107);(try clear HB)
          generalize (((w8.setCell ⟨gb107,0,none⟩ (.int .i64 ((rd_T45 l0 x11_1).f0))).setCell ⟨gb107,1,none⟩ (.int .i64 ((rd_T45 l0 x11_1).f1))).setCell ⟨gb107,2,none⟩ (.slice A106_2 ((rd_T45 l0 x11_1).f2).length c106_2)) = w27 at n0_ n1_ n2_ ⊢
          have HO_3:=n0_;have BK107:=n1_;have HB:=n2_;clear n0_ n1_ n2_;replace HO_3:=am qq139;replace BK107:=am qq140;replace HB:=am qq141;refine start_ (n:=33) (S:=fun w' => w'.cell? ⟨gb107,0,none⟩ = some (.int .i64 ((rd_T45 l0 x11_1).f0)) ∧ w'.cell? ⟨gb107,1,none⟩ = some (.int .i64 ((rd_T45 l0 x11_1).f1)) ∧ w'.cell? ⟨gb107,2,none⟩ = some (.slice A106_2 ((rd_T45 l0 x11_1).f2).length c106_2)) (ds:=[]) m0_2 (by kernel_rfl) rfl rfl ⟨(blk_cell BK107.out 0).trans rfl,(blk_cell BK107.out 1).trans rfl,(blk_cell BK107.out 2).trans rfl⟩ (fun hHeld => ?_);refine with_tabW impl_AreTents.tab5 impl_AreTents.bits5 (fun HT_ HW_ => ?_)
          generalize w27.drew = w28 at HO_3 BK107 HB hHeld ⊢
          refine pV (i:=0) (N:=some 16) m1_2 rfl rfl qT ?_
          refine tV3 (i:=1) (N:=some 17) m2_2 rfl rfl (take_ofW HT_.out HW_.out (by kernel_rfl)) hHeld ?_
          refine one_ (i:=2) (N:=some 18) m3_2 rfl rfl (one_of HT_.out (by kernel_rfl)) (by decide) (fun K hK => ?_);refine goes_ Try.func41 (by kernel_rfl) rfl #[.int .i64 ((rd_T45 l0 x11_1).f0),.int .i64 1,.int .i64 99] (by rfl) rfl rfl qq50 ?_;with_reducible refine (impl_InRange.calls ((rd_T45 l0 x11_1).f0) 1 99 true _ A10.out).mono ?_
          rintro e w' ⟨rfl,⟨nd,rfl⟩⟩
          refine ⟨_,rfl,?_⟩;refine hK.out _ _ ⟨(blk_cell BK107.out 0).trans rfl,(blk_cell BK107.out 1).trans rfl,(blk_cell BK107.out 2).trans rfl⟩ (fun hHeld => ?_);clear hK K;refine norm_ (a':=?_) ?_ ?_;rotate_left
          ·show Act.put _ (some 18) _ = _
           simp only [Act.put,sA,s0,s1,i64_w,i32_w];rfl
          refine pV (i:=3) (N:=some 19) m4_2 rfl rfl qT ?_
          refine pV (i:=4) (N:=some 20) m5_2 rfl rfl qT ?_
          refine pV (i:=5) (N:=some 21) m6_2 rfl rfl qT ?_
          refine pV (i:=6) (N:=some 22) m7_2 rfl rfl qT ?_
          refine pV (i:=7) (N:=some 23) m8_2 rfl rfl qT ?_
          refine pW (i:=8) (N:=some 24) m9_2 rfl rfl qT ?_
          refine pW (i:=9) (N:=some 25) m36_2 rfl rfl qT ?_
          refine pW (i:=10) (N:=some 26) m37_2 rfl rfl qT ?_
          refine pW (i:=11) (N:=some 27) m38_2 rfl rfl qT ?_
          refine pW (i:=12) (N:=some 28) m39_2 rfl rfl qT ?_
          refine pW (i:=13) (N:=some 29) m40_2 rfl rfl qT ?_
          refine pW (i:=14) (N:=some 30) m15_2 rfl rfl qT ?_
          refine pW (i:=15) (N:=some 31) m16_2 rfl rfl qT ?_
          refine pW (i:=16) (N:=some 32) m17_2 rfl rfl qT ?_
          refine pV (i:=17) (N:=some 33) m18_2 rfl rfl qT ?_
          refine pV (i:=18) (N:=some 34) m19_2 rfl rfl qT ?_
          refine pV (i:=19) (N:=some 35) m20_2 rfl rfl qT ?_
          refine pV (i:=20) (N:=some 36) m21_2 rfl rfl qT ?_
          refine tV3 (i:=21) (N:=some 37) m22_2 rfl rfl (take_ofW HT_.out HW_.out (by kernel_rfl)) hHeld ?_
          refine one_ (i:=22) (N:=some 38) m23_2 rfl rfl (one_of HT_.out (by kernel_rfl)) (by decide) (fun K hK => ?_);refine goes_ Try.func41 (by kernel_rfl) rfl #[.int .i64 ((rd_T45 l0 x11_1).f1),.int .i64 1,.int .i64 6] (by rfl) rfl rfl qq50 ?_;with_reducible refine (impl_InRange.calls ((rd_T45 l0 x11_1).f1) 1 6 true _ A25.out).mono ?_
          rintro e w' ⟨rfl,⟨nd,rfl⟩⟩
          refine ⟨_,rfl,?_⟩;refine hK.out _ _ ⟨(blk_cell BK107.out 0).trans rfl,(blk_cell BK107.out 1).trans rfl,(blk_cell BK107.out 2).trans rfl⟩ (fun hHeld => ?_);clear hK K;refine norm_ (a':=?_) ?_ ?_;rotate_left
          ·show Act.put _ (some 38) _ = _
           simp only [Act.put,sA,s0,s1,i64_w,i32_w];rfl
          refine pV (i:=23) (N:=some 39) m24_2 rfl rfl qT ?_
          refine pV (i:=24) (N:=some 40) m25_2 rfl rfl qT ?_
          refine pV (i:=25) (N:=some 41) m26_2 rfl rfl qT ?_
          refine pV (i:=26) (N:=some 42) m27_2 rfl rfl qT ?_
          refine pV (i:=29) (N:=some 45) m34_2 rfl rfl qT ?_
          refine tV3 (i:=27) (N:=some 43) m35_2 rfl rfl (take_ofW HT_.out HW_.out (by kernel_rfl)) hHeld ?_
          refine pV (i:=28) (N:=some 44) m30_2 rfl rfl qT ?_
          refine tV3 (i:=30) (N:=some 46) m31_2 rfl rfl (take_ofW HT_.out HW_.out (by kernel_rfl)) hHeld ?_
          refine pV (i:=31) (N:=some 47) m32_2 rfl rfl qT ?_
          refine pV (i:=32) (N:=some 48) m33_2 rfl rfl qT ?_
          refine done_ (done_of HT_.out (by kernel_rfl)) ?_
          try go_wp2
          go_meet
          case rel => exact ⟨_,(decide ((((rd_T45 l0 x11_1).f2).length : Int) > ((rd_T45 l0 x11_1).f1))),qq95,H',⟨qq93⟩,⟨qq88⟩,⟨qq80⟩,⟨qq49⟩⟩
         ·replace c26:=Bool.eq_false_iff.mpr c26;subst c26;have H1 : (impl_AreTents.j1 k1 l0 x3_1 l0 (l0.length : Int) x11_1 true ((rd_T45 l0 x11_1).f0) ((rd_T45 l0 x11_1).f1) ((rd_T45 l0 x11_1).f2)) = some r:=by rw [if_neg (show ¬ (false = true) by decide)] at H;exact H
          clear H;have H:=H1;clear H1;have H':=am H;clear H
          try go_wp2
          have n0_ : Aside0 (Kd.R (Kd.int .i64) 3 (((w8.setCell ⟨gb107,0,none⟩ (.int .i64 ((rd_T45 l0 x11_1).f0))).setCell ⟨gb107,1,none⟩ (.int .i64 ((rd_T45 l0 x11_1).f1))).setCell ⟨gb107,2,none⟩ (.slice A106_2 ((rd_T45 l0 x11_1).f2).length c106_2)) w.heap.size (fun _ => True) u3 x3_1):=⟨qq3⟩
          have n1_ : Aside0 ((((w8.setCell ⟨gb107,0,none⟩ (.int .i64 ((rd_T45 l0 x11_1).f0))).setCell ⟨gb107,1,none⟩ (.int .i64 ((rd_T45 l0 x11_1).f1))).setCell ⟨gb107,2,none⟩ (.slice A106_2 ((rd_T45 l0 x11_1).f2).length c106_2)).heap[gb107]? = some (.cells #[.int .i64 ((rd_T45 l0 x11_1).f0),.int .i64 ((rd_T45 l0 x11_1).f1),.slice A106_2 ((rd_T45 l0 x11_1).f2).length c106_2] 45 (0,0))):=⟨qq2⟩
          have n2_ : Aside0 (Below w.heap.size w (((w8.setCell ⟨gb107,0,none⟩ (.int .i64 ((rd_T45 l0 x11_1).f0))).setCell ⟨gb107,1,none⟩ (.int .i64 ((rd_T45 l0 x11_1).f1))).setCell ⟨gb107,2,none⟩ (.slice A106_2 ((rd_T45 l0 x11_1).f2).length c106_2))):=⟨qq49⟩
          (try clear HO_3);(try clear BK107);(try clear HB)
          generalize (((w8.setCell ⟨gb107,0,none⟩ (.int .i64 ((rd_T45 l0 x11_1).f0))).setCell ⟨gb107,1,none⟩ (.int .i64 ((rd_T45 l0 x11_1).f1))).setCell ⟨gb107,2,none⟩ (.slice A106_2 ((rd_T45 l0 x11_1).f2).length c106_2)) = w29 at n0_ n1_ n2_ ⊢
          have HO_3:=n0_;have BK107:=n1_;have HB:=n2_;clear n0_ n1_ n2_;replace HO_3:=am qq139;replace BK107:=am qq140;replace HB:=am qq141;refine start_ (n:=33) (S:=fun w' => w'.cell? ⟨gb107,0,none⟩ = some (.int .i64 ((rd_T45 l0 x11_1).f0)) ∧ w'.cell? ⟨gb107,1,none⟩ = some (.int .i64 ((rd_T45 l0 x11_1).f1)) ∧ w'.cell? ⟨gb107,2,none⟩ = some (.slice A106_2 ((rd_T45 l0 x11_1).f2).length c106_2)) (ds:=[]) m0_2 (by kernel_rfl) rfl rfl ⟨(blk_cell BK107.out 0).trans rfl,(blk_cell BK107.out 1).trans rfl,(blk_cell BK107.out 2).trans rfl⟩ (fun hHeld => ?_);refine with_tabW impl_AreTents.tab5 impl_AreTents.bits5 (fun HT_ HW_ => ?_)
          generalize w29.drew = w30 at HO_3 BK107 HB hHeld ⊢
          refine pV (i:=0) (N:=some 16) m1_2 rfl rfl qT ?_
          refine tV3 (i:=1) (N:=some 17) m2_2 rfl rfl (take_ofW HT_.out HW_.out (by kernel_rfl)) hHeld ?_
          refine one_ (i:=2) (N:=some 18) m3_2 rfl rfl (one_of HT_.out (by kernel_rfl)) (by decide) (fun K hK => ?_);refine goes_ Try.func41 (by kernel_rfl) rfl #[.int .i64 ((rd_T45 l0 x11_1).f0),.int .i64 1,.int .i64 99] (by rfl) rfl rfl qq50 ?_;with_reducible refine (impl_InRange.calls ((rd_T45 l0 x11_1).f0) 1 99 true _ A10.out).mono ?_
          rintro e w' ⟨rfl,⟨nd,rfl⟩⟩
          refine ⟨_,rfl,?_⟩;refine hK.out _ _ ⟨(blk_cell BK107.out 0).trans rfl,(blk_cell BK107.out 1).trans rfl,(blk_cell BK107.out 2).trans rfl⟩ (fun hHeld => ?_);clear hK K;refine norm_ (a':=?_) ?_ ?_;rotate_left
          ·show Act.put _ (some 18) _ = _
           simp only [Act.put,sA,s0,s1,i64_w,i32_w];rfl
          refine pV (i:=3) (N:=some 19) m4_2 rfl rfl qT ?_
          refine pV (i:=4) (N:=some 20) m5_2 rfl rfl qT ?_
          refine pV (i:=5) (N:=some 21) m6_2 rfl rfl qT ?_
          refine pV (i:=6) (N:=some 22) m7_2 rfl rfl qT ?_
          refine pV (i:=7) (N:=some 23) m8_2 rfl rfl qT ?_
          refine pW (i:=8) (N:=some 24) m9_2 rfl rfl qT ?_
          refine pW (i:=9) (N:=some 25) m36_2 rfl rfl qT ?_
          refine pW (i:=10) (N:=some 26) m37_2 rfl rfl qT ?_
          refine pW (i:=11) (N:=some 27) m38_2 rfl rfl qT ?_
          refine pW (i:=12) (N:=some 28) m39_2 rfl rfl qT ?_
          refine pW (i:=13) (N:=some 29) m40_2 rfl rfl qT ?_
          refine pW (i:=14) (N:=some 30) m15_2 rfl rfl qT ?_
          refine pW (i:=15) (N:=some 31) m16_2 rfl rfl qT ?_
          refine pW (i:=16) (N:=some 32) m17_2 rfl rfl qT ?_
          refine pV (i:=17) (N:=some 33) m18_2 rfl rfl qT ?_
          refine pV (i:=18) (N:=some 34) m19_2 rfl rfl qT ?_
          refine pV (i:=19) (N:=some 35) m20_2 rfl rfl qT ?_
          refine pV (i:=20) (N:=some 36) m21_2 rfl rfl qT ?_
          refine tV3 (i:=21) (N:=some 37) m22_2 rfl rfl (take_ofW HT_.out HW_.out (by kernel_rfl)) hHeld ?_
          refine one_ (i:=22) (N:=some 38) m23_2 rfl rfl (one_of HT_.out (by kernel_rfl)) (by decide) (fun K hK => ?_);refine goes_ Try.func41 (by kernel_rfl) rfl #[.int .i64 ((rd_T45 l0 x11_1).f1),.int .i64 1,.int .i64 6] (by rfl) rfl rfl qq50 ?_;with_reducible refine (impl_InRange.calls ((rd_T45 l0 x11_1).f1) 1 6 false _ A25.out).mono ?_
          rintro e w' ⟨rfl,⟨nd,rfl⟩⟩
          refine ⟨_,rfl,?_⟩;refine hK.out _ _ ⟨(blk_cell BK107.out 0).trans rfl,(blk_cell BK107.out 1).trans rfl,(blk_cell BK107.out 2).trans rfl⟩ (fun hHeld => ?_);clear hK K;refine norm_ (a':=?_) ?_ ?_;rotate_left
          ·show Act.put _ (some 38) _ = _
           simp only [Act.put,sA,s0,s1,i64_w,i32_w];rfl
          refine pV (i:=23) (N:=some 39) m24_2 rfl rfl qT ?_
          refine pV (i:=24) (N:=some 40) m25_2 rfl rfl qT ?_
          refine pV (i:=25) (N:=some 41) m26_2 rfl rfl qT ?_
          refine pW (i:=26) (N:=some 42) m27_2 rfl rfl qT ?_
          refine pW (i:=27) (N:=some 43) m28_2 rfl rfl qT ?_
          refine pW (i:=28) (N:=some 44) m29_2 rfl rfl qT ?_
          refine pW (i:=29) (N:=some 45) m30_2 rfl rfl qT ?_
          refine pW (i:=30) (N:=some 46) m31_2 rfl rfl qT ?_
          refine pW (i:=31) (N:=some 47) m32_2 rfl rfl qT ?_
          refine pV (i:=32) (N:=some 48) m33_2 rfl rfl qT ?_
          refine done_ (done_of HT_.out (by kernel_rfl)) ?_
          try go_wp2
          go_meet
          case rel => exact ⟨_,(true),qq95,H',⟨qq93⟩,⟨qq88⟩,⟨qq80⟩,⟨qq49⟩⟩
       ·replace c11:=Bool.eq_false_iff.mpr c11;subst c11;have H1 : (impl_AreTents.j1 k1 l0 x3_1 l0 (l0.length : Int) x11_1 true ((rd_T45 l0 x11_1).f0) ((rd_T45 l0 x11_1).f1) ((rd_T45 l0 x11_1).f2)) = some r:=by rw [if_neg (show ¬ (false = true) by decide)] at H;exact H
        clear H;have H:=H1;clear H1;have H':=am H;clear H
        try go_wp2
        have n0_ : Aside0 (Kd.R (Kd.int .i64) 3 (((w8.setCell ⟨gb107,0,none⟩ (.int .i64 ((rd_T45 l0 x11_1).f0))).setCell ⟨gb107,1,none⟩ (.int .i64 ((rd_T45 l0 x11_1).f1))).setCell ⟨gb107,2,none⟩ (.slice A106_2 ((rd_T45 l0 x11_1).f2).length c106_2)) w.heap.size (fun _ => True) u3 x3_1):=⟨qq3⟩
        have n1_ : Aside0 ((((w8.setCell ⟨gb107,0,none⟩ (.int .i64 ((rd_T45 l0 x11_1).f0))).setCell ⟨gb107,1,none⟩ (.int .i64 ((rd_T45 l0 x11_1).f1))).setCell ⟨gb107,2,none⟩ (.slice A106_2 ((rd_T45 l0 x11_1).f2).length c106_2)).heap[gb107]? = some (.cells #[.int .i64 ((rd_T45 l0 x11_1).f0),.int .i64 ((rd_T45 l0 x11_1).f1),.slice A106_2 ((rd_T45 l0 x11_1).f2).length c106_2] 45 (0,0))):=⟨qq2⟩
        have n2_ : Aside0 (Below w.heap.size w (((w8.setCell ⟨gb107,0,none⟩ (.int .i64 ((rd_T45 l0 x11_1).f0))).setCell ⟨gb107,1,none⟩ (.int .i64 ((rd_T45 l0 x11_1).f1))).setCell ⟨gb107,2,none⟩ (.slice A106_2 ((rd_T45 l0 x11_1).f2).length c106_2))):=⟨qq49⟩
        (try clear HO_3);(try clear BK107);(try clear HB)
        generalize (((w8.setCell ⟨gb107,0,none⟩ (.int .i64 ((rd_T45 l0 x11_1).f0))).setCell ⟨gb107,1,none⟩ (.int .i64 ((rd_T45 l0 x11_1).f1))).setCell ⟨gb107,2,none⟩ (.slice A106_2 ((rd_T45 l0 x11_1).f2).length c106_2)) = w31 at n0_ n1_ n2_ ⊢
        have HO_3:=n0_;have BK107:=n1_;have HB:=n2_;clear n0_ n1_ n2_;replace HO_3:=am qq139;replace BK107:=am qq140;replace HB:=am qq141;refine start_ (n:=33) (S:=fun w' => w'.cell? ⟨gb107,0,none⟩ = some (.int .i64 ((rd_T45 l0 x11_1).f0)) ∧ w'.cell? ⟨gb107,1,none⟩ = some (.int .i64 ((rd_T45 l0 x11_1).f1)) ∧ w'.cell? ⟨gb107,2,none⟩ = some (.slice A106_2 ((rd_T45 l0 x11_1).f2).length c106_2)) (ds:=[]) m0_2 (by kernel_rfl) rfl rfl ⟨(blk_cell BK107.out 0).trans rfl,(blk_cell BK107.out 1).trans rfl,(blk_cell BK107.out 2).trans rfl⟩ (fun hHeld => ?_);refine with_tabW impl_AreTents.tab5 impl_AreTents.bits5 (fun HT_ HW_ => ?_)
        generalize w31.drew = w32 at HO_3 BK107 HB hHeld ⊢
        refine pV (i:=0) (N:=some 16) m1_2 rfl rfl qT ?_
        refine tV3 (i:=1) (N:=some 17) m2_2 rfl rfl (take_ofW HT_.out HW_.out (by kernel_rfl)) hHeld ?_
        refine one_ (i:=2) (N:=some 18) m3_2 rfl rfl (one_of HT_.out (by kernel_rfl)) (by decide) (fun K hK => ?_);refine goes_ Try.func41 (by kernel_rfl) rfl #[.int .i64 ((rd_T45 l0 x11_1).f0),.int .i64 1,.int .i64 99] (by rfl) rfl rfl qq50 ?_;with_reducible refine (impl_InRange.calls ((rd_T45 l0 x11_1).f0) 1 99 false _ A10.out).mono ?_
        rintro e w' ⟨rfl,⟨nd,rfl⟩⟩
        refine ⟨_,rfl,?_⟩;refine hK.out _ _ ⟨(blk_cell BK107.out 0).trans rfl,(blk_cell BK107.out 1).trans rfl,(blk_cell BK107.out 2).trans rfl⟩ (fun hHeld => ?_);clear hK K;refine norm_ (a':=?_) ?_ ?_;rotate_left
        ·show Act.put _ (some 18) _ = _
         simp only [Act.put,sA,s0,s1,i64_w,i32_w];rfl
        refine pV (i:=3) (N:=some 19) m4_2 rfl rfl qT ?_
        refine pV (i:=4) (N:=some 20) m5_2 rfl rfl qT ?_
        refine pW (i:=5) (N:=some 21) m6_2 rfl rfl qT ?_
        refine pW (i:=6) (N:=some 22) m7_2 rfl rfl qT ?_
        refine pW (i:=7) (N:=some 23) m8_2 rfl rfl qT ?_
        refine pW (i:=8) (N:=some 24) m9_2 rfl rfl qT ?_
        refine pW (i:=9) (N:=some 25) m36_2 rfl rfl qT ?_
        refine pW (i:=10) (N:=some 26) m37_2 rfl rfl qT ?_
        refine pW (i:=11) (N:=some 27) m38_2 rfl rfl qT ?_
        refine pW (i:=12) (N:=some 28) m39_2 rfl rfl qT ?_
        refine pW (i:=13) (N:=some 29) m40_2 rfl rfl qT ?_
        refine pW (i:=14) (N:=some 30) m15_2 rfl rfl qT ?_
        refine pW (i:=15) (N:=some 31) m16_2 rfl rfl qT ?_
        refine pW (i:=16) (N:=some 32) m17_2 rfl rfl qT ?_
        refine pW (i:=17) (N:=some 33) m18_2 rfl rfl qT ?_
        refine pV (i:=18) (N:=some 34) m19_2 rfl rfl qT ?_
        refine pV (i:=19) (N:=some 35) m20_2 rfl rfl qT ?_
        refine pW (i:=20) (N:=some 36) m21_2 rfl rfl qT ?_
        refine pW (i:=21) (N:=some 37) m22_2 rfl rfl qT ?_
        refine pW (i:=22) (N:=some 38) m23_2 rfl rfl qT ?_
        refine pW (i:=23) (N:=some 39) m24_2 rfl rfl qT ?_
        refine pV (i:=24) (N:=some 40) m25_2 rfl rfl qT ?_
        refine pV (i:=25) (N:=some 41) m26_2 rfl rfl qT ?_
        refine pW (i:=26) (N:=some 42) m27_2 rfl rfl qT ?_
        refine pW (i:=27) (N:=some 43) m28_2 rfl rfl qT ?_
        refine pW (i:=28) (N:=some 44) m29_2 rfl rfl qT ?_
        refine pW (i:=29) (N:=some 45) m30_2 rfl rfl qT ?_
        refine pW (i:=30) (N:=some 46) m31_2 rfl rfl qT ?_
        refine pW (i:=31) (N:=some 47) m32_2 rfl rfl qT ?_
        refine pV (i:=32) (N:=some 48) m33_2 rfl rfl qT ?_
        refine done_ (done_of HT_.out (by kernel_rfl)) ?_
        try go_wp2
        go_meet
        case rel => exact ⟨_,(true),qq95,H',⟨qq93⟩,⟨qq88⟩,⟨qq80⟩,⟨qq49⟩⟩
      case rest =>
       clear HC7
       try clear c1
       try clear c2
       try clear p2
       try clear c4
       try clear c10
       try clear c11
       try clear c26
       obtain ⟨kq,x48_6,rfl,HA,HJ6,HO_3,BK107,HB⟩:=hcut
       cases kq with
       | zero => exact absurd HA.out (by simp [impl_AreTents.j1])
       | succ kj6 =>
        have H:=HA.out;clear HA;simp only [impl_AreTents.j1] at H
        by_cases c33 : x48_6 = true
        ·subst c33;have H1 : (some false) = some r:=by rw [if_pos rfl] at H;exact H
         clear H;have H:=H1;clear H1;obtain rfl:=Option.some.inj H;go_wp2
         go_ret
         exact ⟨qq81,qq49⟩
        ·replace c33:=Bool.eq_false_iff.mpr c33;subst c33;have H1 : (impl_AreTents.l1 kj6 l0 x3_1 l0 (l0.length : Int) x11_1 ((rd_T45 l0 x11_1).f2) (((rd_T45 l0 x11_1).f2).length : Int) 0) = some r:=by rw [if_neg (show ¬ (false = true) by decide)] at H;exact H
         clear H;have H:=H1;clear H1;have H':=am H;clear H;obtain ⟨hcz34_0,hcz34_1,hcz34_2,hfz34_0,hfz34_1,hfz34_2⟩:=bcl3 BK107.out;go_wp2
         go_loopg [3,52] kj6 (fun kq v3 v52 w' => ∃ (x3_3 : List Int) (x52_3 : Int),v52 = .int .i64 x52_3 ∧ Aside0 (impl_AreTents.l1 kq l0 x3_3 l0 (l0.length : Int) x11_1 ((rd_T45 l0 x11_1).f2) (((rd_T45 l0 x11_1).f2).length : Int) x52_3 = some r) ∧ Aside0 (kq ≤ kj6) ∧ Aside0 (Kd.R (Kd.int .i64) 3 w' w.heap.size (fun _ => True) v3 x3_3) ∧ Aside0 (w'.heap[gb107]? = some (.cells #[.int .i64 ((rd_T45 l0 x11_1).f0),.int .i64 ((rd_T45 l0 x11_1).f1),(.slice A106_2 ((rd_T45 l0 x11_1).f2).length c106_2)] 45 (0,0))) ∧ Aside0 (Below w.heap.size w w'))
         case atStart => exact ⟨(x3_1),(0),qq95,H',⟨Nat.le_refl _⟩,⟨qq88⟩,⟨qq80⟩,⟨qq49⟩⟩
         case round =>
          clear H'
          try clear c1
          try clear c2
          try clear p2
          try clear c3
          try clear c4
          try clear c10
          try clear c11
          try clear c26
          try clear c33
          try clear hcz34_0
          try clear hcz34_1
          try clear hcz34_2
          try clear hfz34_0
          try clear hfz34_1
          try clear hfz34_2
          try clear p2
          obtain ⟨x3_3,x52_3,rfl,HA,HK3,HO_3,BK107,HB⟩:=hrel
          cases gk with
          | zero => exact absurd HA.out (by simp [impl_AreTents.l1])
          | succ k3 =>
           have H:=HA.out;clear HA;simp only [impl_AreTents.l1] at H
           by_cases c35 : x52_3 < (((rd_T45 l0 x11_1).f2).length : Int)
           ·rw [if_pos c35] at H;have c35b0 : decide (x52_3 < (((rd_T45 l0 x11_1).f2).length : Int)) = true:=decide_eq_true c35;clear c35
            by_cases c36 : 0 ≤ x52_3
            ·rw [if_pos c36] at H;have c36b0 : decide (0 ≤ x52_3) = true:=decide_eq_true c36;clear c36
             by_cases c37 : x52_3 < (((rd_T45 l0 x11_1).f2).length : Int)
             ·rw [if_pos c37] at H;have c37b0 : decide (x52_3 < (((rd_T45 l0 x11_1).f2).length : Int)) = true:=decide_eq_true c37;clear c37;replace H:=bS.mp H;obtain ⟨t113,A380,H⟩:=H;replace H : (if t113 = true then (some false) else (if x3_3.length < 17592186044416 then (impl_AreTents.l1 k3 l0 (x3_3 ++ [rd ((rd_T45 l0 x11_1).f2) x52_3]) l0 (l0.length : Int) x11_1 ((rd_T45 l0 x11_1).f2) (((rd_T45 l0 x11_1).f2).length : Int) (wrap64 (x52_3 + 1))) else (none))) = some r:=H;have A38:=am A380;clear A380
              by_cases c39 : t113 = true
              ·subst c39;have H1 : (some false) = some r:=by rw [if_pos rfl] at H;exact H
               clear H;have H:=H1;clear H1;obtain rfl:=Option.some.inj H;have p112 : 0 ≤ (x52_3 : Int):=odt qq94;have q112 : x52_3 < (((rd_T45 l0 x11_1).f2).length : Int):=odt qq94;obtain ⟨ad112,e112,hx112_0⟩:=Kd.at_int HR106_2.out x52_3 p112 q112
               cases e112
               replace hx112_0:=(ct HB.out hx112_0 :)
               replace p112:=eq_true p112;replace q112:=eq_true q112;obtain ⟨Ao40,co40,eo40⟩:=Kd.R_slice HO_3.out;subst eo40;go_wp2_with (first | ((with_reducible refine gate_callee (f:=42) rfl ?_);refine goesL_ (some 58) rfl rfl Try.func42 (by kernel_rfl) rfl #[.slice Ao40 x3_3.length co40,.int .i64 (rd ((rd_T45 l0 x11_1).f2) x52_3)] rfl qq50 ?_;(with_reducible refine (impl_has.calls k3 _ _ x3_3 (rd ((rd_T45 l0 x11_1).f2) x52_3) true _ ?side1 ?side2 A38.out).mono ?_);(case side1 => exact qq35);(case side2 => exact qq104);rintro e w' ⟨rfl,⟨nd,rfl⟩⟩;refine ⟨_,rfl,?_⟩))
               go_ret
               exact ⟨qq81,qq49⟩
              ·replace c39:=Bool.eq_false_iff.mpr c39;subst c39;have H1 : (if x3_3.length < 17592186044416 then (impl_AreTents.l1 k3 l0 (x3_3 ++ [rd ((rd_T45 l0 x11_1).f2) x52_3]) l0 (l0.length : Int) x11_1 ((rd_T45 l0 x11_1).f2) (((rd_T45 l0 x11_1).f2).length : Int) (wrap64 (x52_3 + 1))) else (none)) = some r:=by rw [if_neg (show ¬ (false = true) by decide)] at H;exact H
               clear H;have H:=H1;clear H1
               by_cases c41 : x3_3.length < 17592186044416
               ·rw [if_pos c41] at H;have LMc41:=am c41;clear c41;obtain ⟨y114,hy114⟩ : ∃ y_ : List Int,y_ = (x3_3 ++ [rd ((rd_T45 l0 x11_1).f2) x52_3]):=⟨_,rfl⟩
                replace H : (impl_AreTents.l1 k3 l0 y114 l0 (l0.length : Int) x11_1 ((rd_T45 l0 x11_1).f2) (((rd_T45 l0 x11_1).f2).length : Int) (wrap64 (x52_3 + 1))) = some r:=by first | (rw [hy114];with_reducible exact H) | (have H2_:=(Option.bind_some _ _).symm.trans H;rw [hy114];with_reducible exact H2_) | (have H2_:=(Option.bind_some _ _).symm.trans H;with_reducible exact H2_) | with_reducible exact H | (rw [hy114];exact H) | exact H
                have Ny114:=am hy114;clear hy114;have H':=am H;clear H;have p112 : 0 ≤ (x52_3 : Int):=odt qq94;have q112 : x52_3 < (((rd_T45 l0 x11_1).f2).length : Int):=odt qq94;obtain ⟨ad112,e112,hx112_0⟩:=Kd.at_int HR106_2.out x52_3 p112 q112
                cases e112
                replace hx112_0:=(ct HB.out hx112_0 :)
                replace p112:=eq_true p112;replace q112:=eq_true q112;obtain ⟨Ao42,co42,eo42⟩:=Kd.R_slice HO_3.out;subst eo42;go_wp2_with (first | ((with_reducible refine gate_callee (f:=42) rfl ?_);refine goesL_ (some 58) rfl rfl Try.func42 (by kernel_rfl) rfl #[.slice Ao42 x3_3.length co42,.int .i64 (rd ((rd_T45 l0 x11_1).f2) x52_3)] rfl qq50 ?_;(with_reducible refine (impl_has.calls k3 _ _ x3_3 (rd ((rd_T45 l0 x11_1).f2) x52_3) false _ ?side1 ?side2 A38.out).mono ?_);(case side1 => exact qq35);(case side2 => exact qq104);rintro e w' ⟨rfl,⟨nd,rfl⟩⟩;refine ⟨_,rfl,?_⟩) | ((with_reducible refine gate_builtin (b:=.append) (xs:=#[.tmp 59,.tmp 61]) rfl ?_);(try (refine gate_guard (by rfl) ?_;dsimp only));at_builtin;refine Kd.R_append (Kd.int .i64) (w0:=w) w.heap.size rfl (.tmp 59) (.tmp 61) 43 3 (.int .i64 0) 8 rfl Try.underlying43 info3 rfl (by decide) (by omega) (.slice Ao42 x3_3.length co42) x3_3 (rd ((rd_T45 l0 x11_1).f2) x52_3) [.int .i64 (rd ((rd_T45 l0 x11_1).f2) x52_3)] (fun _ => True) (fun _ => False) rfl rfl ?aP (fun _ hk => hk.elim) ?aF ?aO ?aB ?aS ?aL ?_;(case aP => exact rfl);(case aB => exact qq49);(case aF => exact qq105);(case aO => exact qq82);(case aS => exact (below_size qq49));(case aL => have:=LMc41.out;omega);intro v115 w43 ho hb hg hat;rw [← Ny114.out] at ho;replace BK107:=am (blk_grown (g:=gb107) (o:=.cells #[.int .i64 ((rd_T45 l0 x11_1).f0),.int .i64 ((rd_T45 l0 x11_1).f1),.slice (some ad112) ((rd_T45 l0 x11_1).f2).length c106_2] 45 (0,0)) qq80 hg (Kd.R_ne HO_3.out BK107.out (by decide)));replace HB:=am (hb);have HO116:=am (ho);clear HO_3;clear ho hb hg hat))
                go_roundg k3
                case measure => have:=HK1.out;have:=HJ6.out;have:=HK3.out;omega
                case rel => exact ⟨(y114),(wrap64 (x52_3 + 1)),qq95,H',⟨by have:=HK1.out;have:=HJ6.out;have:=HK3.out;omega⟩,⟨by (with_reducible repeat (first | apply kA | apply kN | apply kD));exact HO116.out⟩,⟨qq80⟩,⟨qq49⟩⟩
               ·rw [if_neg c41] at H;exact absurd H (by simp)
             ·rw [if_neg c37] at H;exact absurd H (by simp)
            ·rw [if_neg c36] at H;exact absurd H (by simp)
           ·rw [if_neg c35] at H;have c35b0 : decide (x52_3 < (((rd_T45 l0 x11_1).f2).length : Int)) = false:=decide_eq_false c35;clear c35;have H':=am H;clear H;go_wp2
            go_roundg k3
            case measure => have:=HK1.out;have:=HJ6.out;have:=HK3.out;omega
            case rel => exact ⟨(x3_3),(wrap64 (x11_1 + 1)),qq95,H',⟨by have:=HK1.out;have:=HJ6.out;have:=HK3.out;omega⟩,⟨qq88⟩,⟨qq49⟩⟩
     ·rw [if_neg c6] at H;exact absurd H (by simp)
    ·rw [if_neg c5] at H;exact absurd H (by simp)
   ·rw [if_neg c4] at H;have c4b0 : decide (x11_1 < (l0.length : Int)) = false:=decide_eq_false c4;clear c4;obtain rfl:=Option.some.inj H;go_wp2
    go_ret
    exact ⟨qq81,qq73⟩

end Go.Proofs.Ytnghncedinngoaa.PFnTents
