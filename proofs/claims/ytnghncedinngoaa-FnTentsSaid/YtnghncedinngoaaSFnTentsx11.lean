/- Contracts of functions that the law FnTents reaches, for its row: lines that the kit's printer wrote for this claim, set shorter by a program of this session (own.py), and what fell in Lean proved anew. Lean checks them. -/
import Derived.Test.YtnghncedinngoaaSFnTentsx0
import Derived.Test.YtnghncedinngoaaSFnTentsx8
import Derived.Test.YtnghncedinngoaaSFnTentsx9
import Derived.Test.YtnghncedinngoaaSFnTentsx10
namespace Go.Proofs.Ytnghncedinngoaa.PFnTents
open Go.RowKit Go.Proofs.YtnghncedinngoaaW.PrintWords Go.Proofs.YtnghncedinngoaaW.PrintLast Go.Proofs.YtnghncedinngoaaW.PrintMore
attribute [local go_sem] max2_int min2_int max_two min_two max_three min_three max_four min_four   -- for this text's walks alone
set_option linter.unusedVariables false
set_option linter.unusedSimpArgs false

abbrev m0_11 : Array Bool := #[Z,Z,Z,Z,Z,Z,Z,Z,Z,Z,Z,Z,Z,Z,Z,Z,Z,Z]
abbrev m1_11 : Array Bool := #[Y,Z,Z,Z,Z,Z,Z,Z,Z,Z,Z,Z,Z,Z,Z,Z,Z,Z]
abbrev m2_11 : Array Bool := #[Y,Y,Z,Z,Z,Z,Z,Z,Z,Z,Z,Z,Z,Z,Z,Z,Z,Z]
abbrev m3_11 : Array Bool := #[Y,Y,Y,Z,Z,Z,Z,Z,Z,Z,Z,Z,Z,Z,Z,Z,Z,Z]
abbrev m4_11 : Array Bool := #[Y,Y,Y,Y,Z,Z,Z,Z,Z,Z,Z,Z,Z,Z,Z,Z,Z,Z]
abbrev m5_11 : Array Bool := #[Y,Y,Y,Y,Z,Z,Y,Z,Z,Z,Z,Z,Z,Z,Z,Z,Z,Z]
abbrev m6_11 : Array Bool := #[Y,Y,Y,Y,Z,Z,Y,Y,Z,Z,Z,Z,Z,Z,Z,Z,Z,Z]
abbrev m7_11 : Array Bool := #[Y,Y,Y,Y,Z,Z,Y,Y,Y,Z,Z,Z,Z,Z,Z,Z,Z,Z]
abbrev m8_11 : Array Bool := #[Y,Y,Y,Y,Z,Z,Y,Y,Y,Y,Z,Z,Z,Z,Z,Z,Z,Z]
abbrev m9_11 : Array Bool := #[Y,Y,Y,Y,Y,Z,Y,Y,Y,Y,Z,Z,Z,Z,Z,Z,Z,Z]
abbrev m10_11 : Array Bool := #[Y,Y,Y,Y,Y,Y,Y,Y,Y,Y,Z,Z,Z,Z,Z,Z,Z,Z]
abbrev m11_11 : Array Bool := #[Y,Y,Y,Y,Y,Y,Y,Y,Y,Y,Y,Z,Z,Z,Z,Z,Z,Z]
abbrev m12_11 : Array Bool := #[Y,Y,Y,Y,Y,Y,Y,Y,Y,Y,Y,Y,Z,Z,Z,Z,Z,Z]
abbrev m13_11 : Array Bool := #[Y,Y,Y,Y,Y,Y,Y,Y,Y,Y,Y,Y,Y,Z,Z,Z,Z,Z]
abbrev m14_11 : Array Bool := #[Y,Y,Y,Y,Y,Y,Y,Y,Y,Y,Y,Y,Y,Y,Z,Z,Z,Z]
abbrev m15_11 : Array Bool := #[Y,Y,Y,Y,Y,Y,Y,Y,Y,Y,Y,Y,Y,Y,Y,Z,Z,Z]
abbrev m16_11 : Array Bool := #[Y,Y,Y,Y,Y,Y,Y,Y,Y,Y,Y,Y,Y,Y,Y,Y,Z,Z]
abbrev m17_11 : Array Bool := #[Y,Y,Y,Y,Y,Y,Y,Y,Y,Y,Y,Y,Y,Y,Y,Y,Y,Z]
abbrev m18_11 : Array Bool := #[Y,Y,Y,Y,Y,Y,Y,Y,Y,Y,Y,Y,Y,Y,Y,Y,Y,Y]
/-! ### spec_PutUp: function 14 -/
mutual
def spec_PutUp.l0 : Nat → List (S45) → List (S49) → List (S45) → Int → Option ((List (S45)) × Bool)
 | 0,_,_,_,_ => none
 | k + 1,x0,x1,x6,x7 => if x7 < (x6.length : Int) then (if 0 ≤ x7 then (spec_PutUp.l0 k x0 x1 (x6.set (x7 : Int).toNat (⟨(rd_T45 x6 x7).f0,(rd_T45 x6 x7).f1,(([] : List Int))⟩ : S45)) (wrap64 (x7 + 1))) else (none)) else (spec_PutUp.l1 k x0 x1 x6 0 0)
def spec_PutUp.l1 : Nat → List (S45) → List (S49) → List (S45) → Int → Int → Option ((List (S45)) × Bool)
 | 0,_,_,_,_,_ => none
 | k + 1,x0,x1,x6,x8,x9 => if x9 < (x6.length : Int) then ((spec_AreTents.f k x0).bind fun t259 => (if t259 = true then ((spec_AreCrew.f k x1).bind fun t260 => (spec_PutUp.j2 k x0 x1 x6 x8 x9 t260)) else (spec_PutUp.j2 k x0 x1 x6 x8 x9 false))) else (spec_PutUp.j2 k x0 x1 x6 x8 x9 false)
def spec_PutUp.j2 : Nat → List (S45) → List (S49) → List (S45) → Int → Int → Bool → Option ((List (S45)) × Bool)
 | 0,_,_,_,_,_,_ => none
 | k + 1,x0,x1,x6,x8,x9,x34 => if x34 = true then (spec_PutUp.l2 k x0 x1 x6 x8 x9) else (if x8 < (x1.length : Int) then ((spec_l23Copy.f k x0).bind fun t269 => (some (t269,false))) else ((spec_AreTents.f k x0).bind fun t272 => (if t272 = true then ((spec_AreCrew.f k x1).bind fun t273 => (if t273 = true then (some (x6,true)) else ((spec_l23Copy.f k x0).bind fun t274 => (some (t274,false))))) else ((spec_l23Copy.f k x0).bind fun t277 => (some (t277,false))))))
def spec_PutUp.l2 : Nat → List (S45) → List (S49) → List (S45) → Int → Int → Option ((List (S45)) × Bool)
 | 0,_,_,_,_,_ => none
 | k + 1,x0,x1,x6,x8,x9 => if 0 ≤ x9 then (if x9 < (x6.length : Int) then (if (((rd_T45 x6 x9).f2).length : Int) < ((rd_T45 x6 x9).f1) then (if x8 < (x1.length : Int) then (if 0 ≤ x8 then (if ((rd_T45 x6 x9).f2).length < 17592186044416 then (spec_PutUp.l2 k x0 x1 (x6.set (x9 : Int).toNat (⟨(rd_T45 x6 x9).f0,(rd_T45 x6 x9).f1,(((rd_T45 x6 x9).f2) ++ [(rd_T49 x1 x8).f0])⟩ : S45)) (wrap64 (x8 + 1)) x9) else (none)) else (none)) else (spec_PutUp.l1 k x0 x1 x6 x8 (wrap64 (x9 + 1)))) else (spec_PutUp.l1 k x0 x1 x6 x8 (wrap64 (x9 + 1)))) else (none)) else (none)
end
def spec_PutUp.f (k : Nat) (l0 : List (S45)) (l1 : List (S49)) : Option ((List (S45)) × Bool) := (spec_l23Copy.f k l0).bind fun t252 => (spec_PutUp.l0 k l0 l1 t252 0)
theorem spec_PutUp.mono_l : ∀ k, (∀ y0 y1 y2 y3, LeO (spec_PutUp.l0 k y0 y1 y2 y3) (spec_PutUp.l0 (k + 1) y0 y1 y2 y3)) ∧ (∀ y0 y1 y2 y3 y4, LeO (spec_PutUp.l1 k y0 y1 y2 y3 y4) (spec_PutUp.l1 (k + 1) y0 y1 y2 y3 y4)) ∧ (∀ y0 y1 y2 y3 y4 y5, LeO (spec_PutUp.j2 k y0 y1 y2 y3 y4 y5) (spec_PutUp.j2 (k + 1) y0 y1 y2 y3 y4 y5)) ∧ (∀ y0 y1 y2 y3 y4, LeO (spec_PutUp.l2 k y0 y1 y2 y3 y4) (spec_PutUp.l2 (k + 1) y0 y1 y2 y3 y4))
 | 0 => ⟨fun _ _ _ _ r h => by simp [spec_PutUp.l0] at h,fun _ _ _ _ _ r h => by simp [spec_PutUp.l1] at h,fun _ _ _ _ _ _ r h => by simp [spec_PutUp.j2] at h,fun _ _ _ _ _ r h => by simp [spec_PutUp.l2] at h⟩
 | k + 1 => by
  obtain ⟨ih0,ih1,ih2,ih3⟩:=spec_PutUp.mono_l k
  refine ⟨?_,?_,?_,?_⟩
  ·intro y0 y1 y2 y3
   unfold spec_PutUp.l0
   repeat' first
   | (with_reducible exact ih0 _ _ _ _)
   | (with_reducible exact ih1 _ _ _ _ _)
   | (with_reducible exact ih2 _ _ _ _ _ _)
   | (with_reducible exact ih3 _ _ _ _ _)
   | (with_reducible exact spec_AreCrew.mono _ _)
   | (with_reducible exact spec_AreTents.mono _ _)
   | (with_reducible exact spec_l23Copy.mono _ _)
   | (with_reducible exact LeO.refl _)
   | (with_reducible exact LeO.none _)
   | (with_reducible refine LeO.ite ?_ ?_)
   | (with_reducible refine LeO.bind ?_ (fun _ => ?_))
   | exact ih0 _ _ _ _
   | exact ih1 _ _ _ _ _
   | exact ih2 _ _ _ _ _ _
   | exact ih3 _ _ _ _ _
   | exact spec_AreCrew.mono _ _
   | exact spec_AreTents.mono _ _
   | exact spec_l23Copy.mono _ _
   | exact LeO.none _
   | refine LeO.ite ?_ ?_
   | refine LeO.bind ?_ (fun _ => ?_)
  ·intro y0 y1 y2 y3 y4
   unfold spec_PutUp.l1
   repeat' first
   | (with_reducible exact ih0 _ _ _ _)
   | (with_reducible exact ih1 _ _ _ _ _)
   | (with_reducible exact ih2 _ _ _ _ _ _)
   | (with_reducible exact ih3 _ _ _ _ _)
   | (with_reducible exact spec_AreCrew.mono _ _)
   | (with_reducible exact spec_AreTents.mono _ _)
   | (with_reducible exact spec_l23Copy.mono _ _)
   | (with_reducible exact LeO.refl _)
   | (with_reducible exact LeO.none _)
   | (with_reducible refine LeO.ite ?_ ?_)
   | (with_reducible refine LeO.bind ?_ (fun _ => ?_))
   | exact ih0 _ _ _ _
   | exact ih1 _ _ _ _ _
   | exact ih2 _ _ _ _ _ _
   | exact ih3 _ _ _ _ _
   | exact spec_AreCrew.mono _ _
   | exact spec_AreTents.mono _ _
   | exact spec_l23Copy.mono _ _
   | exact LeO.none _
   | refine LeO.ite ?_ ?_
   | refine LeO.bind ?_ (fun _ => ?_)
  ·intro y0 y1 y2 y3 y4 y5
   unfold spec_PutUp.j2
   repeat' first
   | (with_reducible exact ih0 _ _ _ _)
   | (with_reducible exact ih1 _ _ _ _ _)
   | (with_reducible exact ih2 _ _ _ _ _ _)
   | (with_reducible exact ih3 _ _ _ _ _)
   | (with_reducible exact spec_AreCrew.mono _ _)
   | (with_reducible exact spec_AreTents.mono _ _)
   | (with_reducible exact spec_l23Copy.mono _ _)
   | (with_reducible exact LeO.refl _)
   | (with_reducible exact LeO.none _)
   | (with_reducible refine LeO.ite ?_ ?_)
   | (with_reducible refine LeO.bind ?_ (fun _ => ?_))
   | exact ih0 _ _ _ _
   | exact ih1 _ _ _ _ _
   | exact ih2 _ _ _ _ _ _
   | exact ih3 _ _ _ _ _
   | exact spec_AreCrew.mono _ _
   | exact spec_AreTents.mono _ _
   | exact spec_l23Copy.mono _ _
   | exact LeO.none _
   | refine LeO.ite ?_ ?_
   | refine LeO.bind ?_ (fun _ => ?_)
  ·intro y0 y1 y2 y3 y4
   unfold spec_PutUp.l2
   repeat' first
   | (with_reducible exact ih0 _ _ _ _)
   | (with_reducible exact ih1 _ _ _ _ _)
   | (with_reducible exact ih2 _ _ _ _ _ _)
   | (with_reducible exact ih3 _ _ _ _ _)
   | (with_reducible exact spec_AreCrew.mono _ _)
   | (with_reducible exact spec_AreTents.mono _ _)
   | (with_reducible exact spec_l23Copy.mono _ _)
   | (with_reducible exact LeO.refl _)
   | (with_reducible exact LeO.none _)
   | (with_reducible refine LeO.ite ?_ ?_)
   | (with_reducible refine LeO.bind ?_ (fun _ => ?_))
   | exact ih0 _ _ _ _
   | exact ih1 _ _ _ _ _
   | exact ih2 _ _ _ _ _ _
   | exact ih3 _ _ _ _ _
   | exact spec_AreCrew.mono _ _
   | exact spec_AreTents.mono _ _
   | exact spec_l23Copy.mono _ _
   | exact LeO.none _
   | refine LeO.ite ?_ ?_
   | refine LeO.bind ?_ (fun _ => ?_)
theorem spec_PutUp.mono : ∀ a0 a1 k, LeO (spec_PutUp.f k a0 a1) (spec_PutUp.f (k + 1) a0 a1) := by
 intro a0 a1 k
 obtain ⟨ih0,ih1,ih2,ih3⟩:=spec_PutUp.mono_l k
 unfold spec_PutUp.f
 repeat' first
   | (with_reducible exact ih0 _ _ _ _)
   | (with_reducible exact ih1 _ _ _ _ _)
   | (with_reducible exact ih2 _ _ _ _ _ _)
   | (with_reducible exact ih3 _ _ _ _ _)
   | (with_reducible exact spec_AreCrew.mono _ _)
   | (with_reducible exact spec_AreTents.mono _ _)
   | (with_reducible exact spec_l23Copy.mono _ _)
   | (with_reducible exact LeO.refl _)
   | (with_reducible exact LeO.none _)
   | (with_reducible refine LeO.ite ?_ ?_)
   | (with_reducible refine LeO.bind ?_ (fun _ => ?_))
   | exact ih0 _ _ _ _
   | exact ih1 _ _ _ _ _
   | exact ih2 _ _ _ _ _ _
   | exact ih3 _ _ _ _ _
   | exact spec_AreCrew.mono _ _
   | exact spec_AreTents.mono _ _
   | exact spec_l23Copy.mono _ _
   | exact LeO.none _
   | refine LeO.ite ?_ ?_
   | refine LeO.bind ?_ (fun _ => ?_)
def spec_PutUp.T10 : Bool × List (List Nat × List Nat) := (true, [([], []), ([], []), ([0, 1], [0, 1]), ([2], [2]), ([3], [3]), ([4], [4]), ([], []), ([], []), ([6, 7], [6, 7]), ([8], [8]), ([9], [9]), ([5, 10], [5, 10]), ([11], [11]), ([12], [12]), ([12], [12]), ([14, 12], [12, 14]), ([13, 15, 12], [12, 13, 15]), ([12, 16], [12, 16])])
def spec_PutUp.B10 : List Nat := [0, 0, 3, 7, 15, 31, 0, 0, 192, 448, 960, 2047, 4095, 8191, 8191, 24575, 65535, 131071]
theorem spec_PutUp.tab10 : rtab .any (opsOf Try.f14 10) = spec_PutUp.T10 := by kernel_rfl
theorem spec_PutUp.bits10 : waitsOk spec_PutUp.T10.2 spec_PutUp.B10 = true := by kernel_rfl
def spec_PutUp.T11 : Bool × List (List Nat × List Nat) := (true, [([], []), ([], []), ([], []), ([], []), ([2, 3], [2, 3]), ([4], [4]), ([5], [5]), ([], []), ([], []), ([7, 8], [7, 8]), ([9], [9]), ([10], [10]), ([11], [11]), ([6, 12], [6, 12]), ([0, 1, 0, 1, 2, 3, 4, 5, 6, 7, 8, 9, 10, 11, 12, 13], [0, 1]), ([14, 0, 1, 2, 3, 4, 5, 6, 7, 8, 9, 10, 11, 12, 13], [14]), ([15, 13, 13, 0, 1, 2, 3, 4, 5, 6, 7, 8, 9, 10, 11, 12, 13], [13, 15])])
def spec_PutUp.B11 : List Nat := [0, 0, 0, 0, 12, 28, 60, 0, 0, 384, 896, 1920, 3968, 8188, 16383, 32767, 65535]
theorem spec_PutUp.tab11 : rtab .any (opsOf Try.f14 11) = spec_PutUp.T11 := by kernel_rfl
theorem spec_PutUp.bits11 : waitsOk spec_PutUp.T11.2 spec_PutUp.B11 = true := by kernel_rfl
set_option maxHeartbeats 8000000 in
set_option maxRecDepth 100000 in
theorem spec_PutUp.calls (k : Nat) (A0 : Option Addr) (c0 : Nat) (l0 : List (S45)) (A1 : Option Addr) (c1 : Nat) (l1 : List (S49)) (r1 : List (S45)) (r2 : Bool) (w : World) (hr0 : Kd.C k45 w A0 l0.length l0) (hc0 : l0.length ≤ c0) (hr1 : Kd.C k49 w A1 l1.length l1) (hc1 : l1.length ≤ c1) (h : spec_PutUp.f k l0 l1 = some (r1, r2)) :
  Calls Try.prog 14 #[.slice A0 l0.length c0,.slice A1 l1.length c1] w fun e w' => ∃ v0_ : Value,e = .returned (.tuple #[v0_,.bool r2]) ∧ Kd.S k45 45 w' w.heap.size (fun _ => True) v0_ r1 ∧ Below w.heap.size w w':=by
 have HR0:=am hr0;have HC0:=am hc0;clear hr0 hc0;have HR1:=am hr1;have HC1:=am hc1;clear hr1 hc1;have HB:=am qq135;have H : ((spec_l23Copy.f k l0).bind fun t252 => (spec_PutUp.l0 k l0 l1 t252 0)) = some (r1,r2):=h;clear h;replace H:=bS.mp H;obtain ⟨t252,A30,H⟩:=H;replace H : (spec_PutUp.l0 k l0 l1 t252 0) = some (r1,r2):=H;have A3:=am A30;clear A30;have H':=am H;clear H
 go_enter Try.func14,Try.ntmps14
 go_wp2_with (first | ((with_reducible refine gate_callee (f:=26) rfl ?_);refine goesL_ (some 11) rfl rfl Try.func26 (by kernel_rfl) rfl #[.slice A0 l0.length c0] rfl qq50 ?_;(with_reducible refine (spec_l23Copy.calls k _ _ l0 t252 _ ?side1 ?side2 A3.out).mono ?_);(case side1 => exact qq51);(case side2 => exact HC0.out);rintro e w4 ⟨v253,rfl,ho0,hb⟩;refine ⟨_,rfl,?_⟩;have HO254:=am qq131;replace HB:=am qq138;(try clear hb);(try clear hb2);(try clear hk);(try clear hi);(try clear ho0)))
 go_loopg [7] k (fun kq v7 w' => ∃ (x6_1 : List (S45)) (x7_1 : Int),v7 = .int .i64 x7_1 ∧ Aside0 (spec_PutUp.l0 kq l0 l1 x6_1 x7_1 = some (r1,r2)) ∧ Aside0 (kq ≤ k) ∧ Aside0 (Kd.S k45 45 w' w.heap.size (fun _ => True) v253 x6_1) ∧ Aside0 (Below w.heap.size w w'))
 case atStart => exact ⟨(t252),(0),qq95,H',⟨Nat.le_refl _⟩,⟨by (with_reducible repeat (first | apply Kd.S_alloc | apply Kd.S_drewN | apply Kd.S_drew));exact HO254.out⟩,⟨qq73⟩⟩
 case round =>
  clear H'
  try clear c1
  try clear c2
  try clear p2
  obtain ⟨x6_1,x7_1,rfl,HA,HK1,HO_6,HB⟩:=hrel
  cases gk with
  | zero => exact absurd HA.out (by simp [spec_PutUp.l0])
  | succ k1 =>
   have H:=HA.out;clear HA;simp only [spec_PutUp.l0] at H
   by_cases c5 : x7_1 < (x6_1.length : Int)
   ·rw [if_pos c5] at H;have c5b0 : decide (x7_1 < (x6_1.length : Int)) = true:=decide_eq_true c5;clear c5;obtain ⟨y255,hy255⟩ : ∃ y_ : List Int,y_ = (([] : List Int)):=⟨_,rfl⟩
    replace H : (if 0 ≤ x7_1 then (spec_PutUp.l0 k1 l0 l1 (x6_1.set (x7_1 : Int).toNat (⟨(rd_T45 x6_1 x7_1).f0,(rd_T45 x6_1 x7_1).f1,y255⟩ : S45)) (wrap64 (x7_1 + 1))) else (none)) = some (r1,r2):=by first | (rw [hy255];with_reducible exact H) | (have H2_:=(Option.bind_some _ _).symm.trans H;rw [hy255];with_reducible exact H2_) | (have H2_:=(Option.bind_some _ _).symm.trans H;with_reducible exact H2_) | with_reducible exact H | (rw [hy255];exact H) | exact H
    have Ny255:=am hy255;clear hy255
    by_cases c6 : 0 ≤ x7_1
    ·rw [if_pos c6] at H;have c6b0 : decide (0 ≤ x7_1) = true:=decide_eq_true c6;clear c6;obtain ⟨y258,hy258⟩ : ∃ y_ : List (S45),y_ = (x6_1.set (x7_1 : Int).toNat (⟨(rd_T45 x6_1 x7_1).f0,(rd_T45 x6_1 x7_1).f1,y255⟩ : S45)):=⟨_,rfl⟩
     replace H : (spec_PutUp.l0 k1 l0 l1 y258 (wrap64 (x7_1 + 1))) = some (r1,r2):=by first | (rw [hy258];with_reducible exact H) | (have H2_:=(Option.bind_some _ _).symm.trans H;rw [hy258];with_reducible exact H2_) | (have H2_:=(Option.bind_some _ _).symm.trans H;with_reducible exact H2_) | with_reducible exact H | (rw [hy258];exact H) | exact H
     have Ny258:=am hy258;clear hy258;have H':=am H;clear H;obtain ⟨Ao8,co8,eo8⟩:=Kd.S_slice HO_6.out;subst eo8;go_wp2_with (first | ((with_reducible refine gate_dst (N:=20) rfl ?_);(try (refine gate_guard (by rfl) ?_;dsimp only));refine Kd.R_lit (Kd.int .i64) _ 3 ?hg (N:=20) ?hd (xs:=([] : List Int)) (inner:=[]) (ok:=fun _ => True) (okp:=fun _ => True) ?hr ?hp (fun _ hk => hk) trivial (Below.refl _ _) (Nat.le_refl _) (by simp) ?_;(case hd => rfl);(case hg => rfl);(case hr => exact qq96);(case hp => exact qq106);intro v256 w9 ho10 hb hg_ hnew_;clear hg_ hnew_;(first | rw [← Ny255.out] at ho10 | (simp only [Int.reduceToNat] at ho10;rw [← Ny255.out] at ho10));replace HO_6:=am (Kd.S_elder' qq75 (Kd.R_base ho10) hb);have HO257:=am (Kd.R_lower ho10 (below_size qq73));replace HB:=am qq138;clear hb ho10;have p7 : 0 ≤ (x7_1 : Int):=odt qq94;have q7 : (x7_1 : Int) < ((x6_1.length : Int) : Int):=odt qq94;obtain ⟨go7,co7,eo7,gb7,gl7,cl7,HG7⟩:=Kd.S_form HO_6.out (by omega);(first | cases eo7 | (injection eo7 with ea_ en_ ec_;(first | subst ea_ | (injection ea_ with ea_;subst ea_));subst ec_;clear en_));have GB7:=am gb7;have GG7:=am HG7;clear gb7 gl7 HG7;obtain ⟨_,ce7,hcl7,hM7,hcc7,hfr7,_,_⟩:=Kd.S_elem HO_6.out z45 (x7_1 : Int) p7 q7;obtain ⟨ve7_2,rfl,ge7_2⟩:=k45_openM hM7;have hx7_0 : w9.cell? ⟨go7,(x7_1 : Int).toNat * 3,none⟩ = some (.int .i64 ((rd_T45 x6_1 x7_1).f0)):=hcc7 0 _ rfl;have hx7_1 : w9.cell? ⟨go7,(x7_1 : Int).toNat * 3 + 1,none⟩ = some (.int .i64 ((rd_T45 x6_1 x7_1).f1)):=hcc7 1 _ rfl;have hx7_2 : w9.cell? ⟨go7,(x7_1 : Int).toNat * 3 + 2,none⟩ = some (ve7_2):=hcc7 2 _ rfl;have hf7_0 : w9.frozen? ⟨go7,(x7_1 : Int).toNat * 3,none⟩ = false:=hfr7 0;have hf7_1 : w9.frozen? ⟨go7,(x7_1 : Int).toNat * 3 + 1,none⟩ = false:=hfr7 1;have hf7_2 : w9.frozen? ⟨go7,(x7_1 : Int).toNat * 3 + 2,none⟩ = false:=hfr7 2;clear hcl7 hcc7 hfr7;(try clear hM7);replace p7:=eq_true p7;replace q7:=eq_true q7;have n_:=am (Kd.S_mono (ok':=(fun k_ => some k_ ≠ (v256 : Value).ownBlock)) HO_6.out (fun k_ hk => hk.2));clear HO_6;have HO_6:=n_;clear n_;have HX11:=am (show Kd.S k45 45 w9 w.heap.size (fun k_ => ((fun _ => True)) k_ ∧ ¬ ((fun k_ => some k_ = (v256 : Value).ownBlock)) k_) (.slice (some ⟨go7,0,none⟩) x6_1.length co8) x6_1 from qq24);obtain ⟨oki11,ce11,hcl11,hM11,hcc11,hfr11,hoki11,hH11⟩:=Kd.S_elem HX11.out z45 (x7_1 : Int) (odt qq94) qq10;obtain ⟨ve11_2,rfl,ge11_2⟩:=k45_openM hM11;have HP11:=Kd.S_seg hH11 (odt qq94) qq10 (seg:=[v256]) (j:=2) (show 3 ≤ 3 from by decide) (x':=(⟨(rd_T45 x6_1 x7_1).f0,(rd_T45 x6_1 x7_1).f1,y255⟩ : S45)) (k45_mkM _ _ _ (⟨(rd_T45 x6_1 x7_1).f0,(rd_T45 x6_1 x7_1).f1,y255⟩ : S45) (Kd.R_mono (Kd.R_tight rfl (Kd.R_mono (ok':=fun k_ => ((fun _ => True)) k_ ∧ k_ ≠ go7) (Kd.R_apart' (HO257.out) (Kd.S_typed HO_6.out) (by decide)) (fun k_ hk => ⟨trivial,fun e_ => (hk.2) (by rw [e_];rfl)⟩))) (fun _ h_ => Or.inr (h_)))) (fun _ hk => hk) (fun k_ hk_ => ((Kd.R_mono (ok':=fun k_ => ((fun _ => True)) k_ ∧ k_ ≠ go7) (Kd.R_apart' (HO257.out) (Kd.S_typed HO_6.out) (by decide)) (fun k_ hk => ⟨trivial,fun e_ => (hk.2) (by rw [e_];rfl)⟩))).1 k_ hk_.symm);have hx11_2:=hcc11 2 _ rfl;(try simp only [show (k45).sz = 3 from rfl,Nat.mul_one,Nat.add_zero] at hx11_2);have hf11_2:=hfr11 2;(try simp only [show (k45).sz = 3 from rfl,Nat.mul_one,Nat.add_zero] at hf11_2);clear hcl11 hcc11 hfr11 hM11 hoki11 hH11) | ((with_reducible refine gate_store (t:=43) (p:=22) rfl ?_);refine store_event (t:=43) (p:=22) (v:=?vo_w12) (w1:=(w9.setCell ⟨go7,(x7_1 : Int).toNat * 3 + 2,none⟩ (v256))) ?hg ?ho ?hn ?hr ?_;(case ho => rfl);(case hg => rfl);(case hn => rfl);(case hr => first | (go_simp;done) | (go_simp;rfl) | (obtain ⟨A_,c_,e_⟩:=Kd.R_slice HO257.out;subst e_;first | (go_simp;done) | (go_simp;rfl)));intro w12 hw;have hg : w9.grownBy w12 (some go7):=(by rw [hw];exact HP11.2);have hp_ : Kd.S k45 45 w12 w.heap.size (fun _ => True) (.slice (some ⟨go7,0,none⟩) x6_1.length co8) y258:=(by rw [hw,Ny258.out];exact HP11.1);clear HP11;replace HO_6:=am (hp_);replace HB:=am ((by rw [hw];exact below_set (HB.out) GB7.out : Below w.heap.size w w12));clear HO257;clear hg hw hp_))
     go_roundg k1
     case measure => have:=HK1.out;omega
     case rel => exact ⟨(y258),(wrap64 (x7_1 + 1)),qq95,H',⟨qq107⟩,⟨qq75⟩,⟨qq73⟩⟩
    ·rw [if_neg c6] at H;exact absurd H (by simp)
   ·rw [if_neg c5] at H;have c5b0 : decide (x7_1 < (x6_1.length : Int)) = false:=decide_eq_false c5;clear c5;have H':=am H;clear H;obtain ⟨Ao13,co13,eo13⟩:=Kd.S_slice HO_6.out;subst eo13;go_wp2
    go_loopg [8,9] k1 (fun kq v8 v9 w' => ∃ (x6_2 : List (S45)) (x8_2 : Int) (x9_2 : Int),v8 = .int .i64 x8_2 ∧ v9 = .int .i64 x9_2 ∧ Aside0 (spec_PutUp.l1 kq l0 l1 x6_2 x8_2 x9_2 = some (r1,r2)) ∧ Aside0 (kq ≤ k1) ∧ Aside0 (Kd.S k45 45 w' w.heap.size (fun _ => True) (.slice Ao13 x6_1.length co13) x6_2) ∧ Aside0 (Below w.heap.size w w'))
    case atStart => exact ⟨(x6_1),(0),(0),qq95,qq95,H',⟨Nat.le_refl _⟩,⟨qq75⟩,⟨qq73⟩⟩
    case round =>
     clear H'
     try clear c1
     try clear hx1
     try clear c2
     try clear p2
     try clear c5
     try clear c5b0
     try clear c6
     try clear c6b0
     try clear p6
     try clear c7
     try clear p7
     try clear q7
     try clear hx7
     try clear hf7
     try clear c11
     try clear hx11
     try clear hf11
     try clear hx11_2
     try clear hx7_0
     try clear hx7_1
     try clear hx7_2
     try clear p2
     try clear p7
     try clear q7
     obtain ⟨x6_2,x8_2,x9_2,rfl,rfl,HA,HK2,HO_6,HB⟩:=hrel;have hl6_2:=(Kd.S_reads' HO_6.out).1;rw [hl6_2] at HO_6;(try simp only [hl6_2])
     cases gk with
     | zero => exact absurd HA.out (by simp [spec_PutUp.l1])
     | succ k2 =>
      have H:=HA.out;clear HA;simp only [spec_PutUp.l1] at H;have HC14:=am H;clear H
      go_upto_region 8 with (fail)
      go_cut [34] (fun v34 wc => ∃ (kq : Nat) (x34_13 : Bool),v34 = .bool x34_13 ∧ Aside0 (spec_PutUp.j2 kq l0 l1 x6_2 x8_2 x9_2 x34_13 = some (r1,r2)) ∧ Aside0 (kq ≤ k2) ∧ Aside0 (Kd.S k45 45 wc w.heap.size (fun _ => True) (.slice Ao13 x6_2.length co13) x6_2) ∧ Aside0 (Below w.heap.size w wc))
      case first =>
       have H:=HC14.out;clear HC14
       by_cases c15 : x9_2 < (x6_2.length : Int)
       ·rw [if_pos c15] at H;have c15b0 : decide (x9_2 < (x6_2.length : Int)) = true:=decide_eq_true c15;clear c15;(first | rw [c15b0] | (simp only [i64_w,i32_w];rw [c15b0]) | skip);replace H:=bS.mp H;obtain ⟨t259,A160,H⟩:=H;replace H : (if t259 = true then ((spec_AreCrew.f k2 l1).bind fun t260 => (spec_PutUp.j2 k2 l0 l1 x6_2 x8_2 x9_2 t260)) else (spec_PutUp.j2 k2 l0 l1 x6_2 x8_2 x9_2 false)) = some (r1,r2):=H;have A16:=am A160;clear A160
        by_cases c17 : t259 = true
        ·subst c17;have H1 : ((spec_AreCrew.f k2 l1).bind fun t260 => (spec_PutUp.j2 k2 l0 l1 x6_2 x8_2 x9_2 t260)) = some (r1,r2):=by rw [if_pos rfl] at H;exact H
         clear H;have H:=H1;clear H1;replace H:=bS.mp H;obtain ⟨t260,A180,H⟩:=H;replace H : (spec_PutUp.j2 k2 l0 l1 x6_2 x8_2 x9_2 t260) = some (r1,r2):=H;have A18:=am A180;clear A180;have H':=am H;clear H;go_wp2_with (first | (go_at_call 28;(with_reducible refine (spec_AreTents.calls k2 _ _ l0 true _ ?side1 ?side2 A16.out).mono ?_);(case side1 => exact qq29);(case side2 => exact HC0.out);rintro e w19 ⟨rfl,hb⟩;replace HO_6:=am qq143;replace HB:=am qq138;(try clear hb);(try clear hb2);(try clear hk);(try clear hi)) | (go_at_call 35;(with_reducible refine (spec_AreCrew.calls k2 _ _ l1 t260 _ ?side1 ?side2 A18.out).mono ?_);(case side1 => exact qq28);(case side2 => exact HC1.out);rintro e w20 ⟨rfl,hb⟩;replace HO_6:=am qq143;replace HB:=am qq138;(try clear hb);(try clear hb2);(try clear hk);(try clear hi)))
         go_meet
         case rel => exact ⟨_,(t260),qq95,H',⟨qq89⟩,⟨qq62⟩,⟨qq73⟩⟩
        ·replace c17:=Bool.eq_false_iff.mpr c17;subst c17;have H1 : (spec_PutUp.j2 k2 l0 l1 x6_2 x8_2 x9_2 false) = some (r1,r2):=by rw [if_neg (show ¬ (false = true) by decide)] at H;exact H
         clear H;have H:=H1;clear H1;have H':=am H;clear H;go_wp2_with (first | (go_at_call 28;(with_reducible refine (spec_AreTents.calls k2 _ _ l0 false _ ?side1 ?side2 A16.out).mono ?_);(case side1 => exact qq29);(case side2 => exact HC0.out);rintro e w21 ⟨rfl,hb⟩;replace HO_6:=am qq143;replace HB:=am qq138;(try clear hb);(try clear hb2);(try clear hk);(try clear hi)))
         go_meet
         case rel => exact ⟨_,(false),qq95,H',⟨qq89⟩,⟨qq62⟩,⟨qq73⟩⟩
       ·rw [if_neg c15] at H;have c15b0 : decide (x9_2 < (x6_2.length : Int)) = false:=decide_eq_false c15;clear c15;(first | rw [c15b0] | (simp only [i64_w,i32_w];rw [c15b0]) | skip);have H':=am H;clear H;go_wp2
        go_meet
        case rel => exact ⟨_,(false),qq95,H',⟨qq89⟩,⟨qq62⟩,⟨qq73⟩⟩
      case rest =>
       clear HC14
       try clear c1
       try clear hx1
       try clear c2
       try clear p2
       try clear c5
       try clear c5b0
       try clear c6
       try clear c6b0
       try clear p6
       try clear c7
       try clear p7
       try clear q7
       try clear hx7
       try clear hf7
       try clear c11
       try clear hx11
       try clear hf11
       try clear c14
       try clear c15
       try clear c15b0
       try clear c17
       try clear hx11_2
       try clear hx7_0
       try clear hx7_1
       try clear hx7_2
       try clear p2
       try clear p6
       try clear p7
       try clear q7
       obtain ⟨kq,x34_13,rfl,HA,HJ13,HO_6,HB⟩:=hcut
       cases kq with
       | zero => exact absurd HA.out (by simp [spec_PutUp.j2])
       | succ kj13 =>
        have H:=HA.out;clear HA;simp only [spec_PutUp.j2] at H
        by_cases c22 : x34_13 = true
        ·subst c22;have H1 : (spec_PutUp.l2 kj13 l0 l1 x6_2 x8_2 x9_2) = some (r1,r2):=by rw [if_pos rfl] at H;exact H
         clear H;have H:=H1;clear H1;have H':=am H;clear H;go_wp2
         go_loopg [8] kj13 (fun kq v8 w' => ∃ (x6_4 : List (S45)) (x8_4 : Int),v8 = .int .i64 x8_4 ∧ Aside0 (spec_PutUp.l2 kq l0 l1 x6_4 x8_4 x9_2 = some (r1,r2)) ∧ Aside0 (kq ≤ kj13) ∧ Aside0 (Kd.S k45 45 w' w.heap.size (fun _ => True) (.slice Ao13 x6_2.length co13) x6_4) ∧ Aside0 (Below w.heap.size w w'))
         case atStart => exact ⟨(x6_2),(x8_2),qq95,H',⟨Nat.le_refl _⟩,⟨qq62⟩,⟨qq73⟩⟩
         case round =>
          clear H'
          try clear c1
          try clear hx1
          try clear c2
          try clear p2
          try clear c5
          try clear c5b0
          try clear c6
          try clear c6b0
          try clear p6
          try clear c7
          try clear p7
          try clear q7
          try clear hx7
          try clear hf7
          try clear c11
          try clear hx11
          try clear hf11
          try clear c14
          try clear c15
          try clear c15b0
          try clear c17
          try clear c22
          try clear hx11_2
          try clear hx7_0
          try clear hx7_1
          try clear hx7_2
          try clear p2
          try clear p6
          try clear p7
          try clear q7
          obtain ⟨x6_4,x8_4,rfl,HA,HK4,HO_6,HB⟩:=hrel;have hl6_4:=(Kd.S_reads' HO_6.out).1;rw [hl6_4] at HO_6;(try simp only [hl6_4])
          cases gk with
          | zero => exact absurd HA.out (by simp [spec_PutUp.l2])
          | succ k4 =>
           have H:=HA.out;clear HA;simp only [spec_PutUp.l2] at H
           by_cases c23 : 0 ≤ x9_2
           ·rw [if_pos c23] at H;have c23b0 : decide (0 ≤ x9_2) = true:=decide_eq_true c23;clear c23
            by_cases c24 : x9_2 < (x6_4.length : Int)
            ·rw [if_pos c24] at H;have c24b0 : decide (x9_2 < (x6_4.length : Int)) = true:=decide_eq_true c24;clear c24
             by_cases c25 : (((rd_T45 x6_4 x9_2).f2).length : Int) < ((rd_T45 x6_4 x9_2).f1)
             ·rw [if_pos c25] at H;have c25b0 : decide ((((rd_T45 x6_4 x9_2).f2).length : Int) < ((rd_T45 x6_4 x9_2).f1)) = true:=decide_eq_true c25;clear c25
              by_cases c26 : x8_4 < (l1.length : Int)
              ·rw [if_pos c26] at H;have c26b0 : decide (x8_4 < (l1.length : Int)) = true:=decide_eq_true c26;clear c26
               by_cases c27 : 0 ≤ x8_4
               ·rw [if_pos c27] at H;have c27b0 : decide (0 ≤ x8_4) = true:=decide_eq_true c27;clear c27
                by_cases c28 : ((rd_T45 x6_4 x9_2).f2).length < 17592186044416
                ·rw [if_pos c28] at H;have LMc28:=am c28;clear c28;obtain ⟨y265,hy265⟩ : ∃ y_ : List Int,y_ = (((rd_T45 x6_4 x9_2).f2) ++ [(rd_T49 l1 x8_4).f0]):=⟨_,rfl⟩
                 replace H : (spec_PutUp.l2 k4 l0 l1 (x6_4.set (x9_2 : Int).toNat (⟨(rd_T45 x6_4 x9_2).f0,(rd_T45 x6_4 x9_2).f1,y265⟩ : S45)) (wrap64 (x8_4 + 1)) x9_2) = some (r1,r2):=by first | (rw [hy265];with_reducible exact H) | (have H2_:=(Option.bind_some _ _).symm.trans H;rw [hy265];with_reducible exact H2_) | (have H2_:=(Option.bind_some _ _).symm.trans H;with_reducible exact H2_) | with_reducible exact H | (rw [hy265];exact H) | exact H
                 have Ny265:=am hy265;clear hy265;obtain ⟨y268,hy268⟩ : ∃ y_ : List (S45),y_ = (x6_4.set (x9_2 : Int).toNat (⟨(rd_T45 x6_4 x9_2).f0,(rd_T45 x6_4 x9_2).f1,y265⟩ : S45)):=⟨_,rfl⟩
                 replace H : (spec_PutUp.l2 k4 l0 l1 y268 (wrap64 (x8_4 + 1)) x9_2) = some (r1,r2):=by first | (rw [hy268];with_reducible exact H) | (have H2_:=(Option.bind_some _ _).symm.trans H;rw [hy268];with_reducible exact H2_) | (have H2_:=(Option.bind_some _ _).symm.trans H;with_reducible exact H2_) | with_reducible exact H | (rw [hy268];exact H) | exact H
                 have Ny268:=am hy268;clear hy268;have H':=am H;clear H
                 try go_wp2
                 replace HO_6:=am qq144;replace HB:=am qq141;have p261 : 0 ≤ (x9_2 : Int):=odt qq94;have q261 : x9_2 < (x6_4.length : Int):=odt qq94;obtain ⟨ad261,A261_2,c261_2,e261,hx261_0,hx261_1,hx261_2,hl261_2,hi261_2⟩:=at_T45 (Kd.S_reads' HO_6.out).2.2 x9_2 p261 q261
                 cases e261
                 obtain ⟨ce261,hce261,hMe261,hcc261⟩:=Kd.S_get HO_6.out z45 x9_2 p261 qq53;obtain ⟨ve261_2,rfl,ge261_2⟩:=k45_openM hMe261;have hv261_2:=hcc261 2 _ rfl;rw [add_field _ _ 2 (by omega)] at hv261_2;replace hv261_2:=Option.some.inj (hv261_2.symm.trans hx261_2);rw [hv261_2] at ge261_2;have HL261_2:=am qq122;clear hv261_2 ge261_2;have HX261_2:=am hx261_2;clear hcc261 hce261;have HR261_2:=am hi261_2;have HC261_2:=am hl261_2;clear hi261_2 hl261_2;replace p261:=eq_true p261;replace q261:=eq_true q261;have p262 : 0 ≤ (x9_2 : Int):=odt qq94;have q262 : x9_2 < (x6_4.length : Int):=odt qq94;obtain ⟨ad262,A262_2,c262_2,e262,hx262_0,hx262_1,hx262_2,hl262_2,hi262_2⟩:=at_T45 (Kd.S_reads' HO_6.out).2.2 x9_2 p262 q262;obtain rfl : ad261 = ad262:=(by injection e262)
                 obtain ⟨ce262,hce262,hMe262,hcc262⟩:=Kd.S_get HO_6.out z45 x9_2 p262 qq52;obtain ⟨ve262_2,rfl,ge262_2⟩:=k45_openM hMe262;have hv262_2:=hcc262 2 _ rfl;rw [add_field _ _ 2 (by omega)] at hv262_2;replace hv262_2:=Option.some.inj (hv262_2.symm.trans hx262_2);rw [hv262_2] at ge262_2;have HL262_2:=am qq123;clear hv262_2 ge262_2;have HX262_2:=am hx262_2;clear hcc262 hce262;have HR262_2:=am hi262_2;have HC262_2:=am hl262_2;clear hi262_2 hl262_2;replace p262:=eq_true p262;replace q262:=eq_true q262;have ea_:=Option.some.inj (hx261_2.symm.trans hx262_2)
                 injection ea_ with ea_ en_ ec_
                 subst ea_;subst ec_;clear en_;refine start_ (n:=18) (S:=fun w' => w'.cell? (ad261.add ((x9_2).toNat * 3)) = some (.int .i64 ((rd_T45 x6_4 x9_2).f0)) ∧ w'.cell? ⟨(ad261.add ((x9_2).toNat * 3)).block,(ad261.add ((x9_2).toNat * 3)).off + 1,none⟩ = some (.int .i64 ((rd_T45 x6_4 x9_2).f1)) ∧ w'.cell? ⟨(ad261.add ((x9_2).toNat * 3)).block,(ad261.add ((x9_2).toNat * 3)).off + 2,none⟩ = some (.slice A261_2 ((rd_T45 x6_4 x9_2).f2).length c261_2) ∧ w'.cell? (ad261.add ((x9_2).toNat * 3)) = some (.int .i64 ((rd_T45 x6_4 x9_2).f0)) ∧ w'.cell? ⟨(ad261.add ((x9_2).toNat * 3)).block,(ad261.add ((x9_2).toNat * 3)).off + 1,none⟩ = some (.int .i64 ((rd_T45 x6_4 x9_2).f1)) ∧ w'.cell? ⟨(ad261.add ((x9_2).toNat * 3)).block,(ad261.add ((x9_2).toNat * 3)).off + 2,none⟩ = some (.slice A261_2 ((rd_T45 x6_4 x9_2).f2).length c261_2)) (ds:=[]) m0_11 (by kernel_rfl) rfl rfl ⟨hx261_0,hx261_1,hx261_2,hx262_0,hx262_1,hx262_2⟩ (fun hHeld => ?_);refine with_tabW spec_PutUp.tab10 spec_PutUp.bits10 (fun HT_ HW_ => ?_)
                 generalize wr.drew = w30 at HO_6 HB HL261_2 HL262_2 HR261_2 HR262_2 HX261_2 HX262_2 hx261_0 hx261_1 hx261_2 hx262_0 hx262_1 hx262_2 hHeld ⊢
                 refine pV (i:=0) (N:=some 37) m1_11 rfl rfl qT ?_
                 refine pV (i:=1) (N:=some 38) m2_11 rfl rfl qT ?_
                 refine pV (i:=2) (N:=some 39) m3_11 rfl rfl qT ?_
                 refine pV (i:=3) (N:=some 40) m4_11 rfl rfl qT ?_
                 refine pV (i:=6) (N:=some 43) m5_11 rfl rfl qT ?_
                 refine pV (i:=7) (N:=some 44) m6_11 rfl rfl qT ?_
                 refine pV (i:=8) (N:=some 45) m7_11 rfl rfl qT ?_
                 refine pV (i:=9) (N:=some 46) m8_11 rfl rfl qT ?_
                 refine tV6 (i:=4) (N:=some 41) m9_11 rfl rfl (take_ofW HT_.out HW_.out (by kernel_rfl)) hHeld ?_
                 refine pV (i:=5) (N:=some 42) m10_11 rfl rfl qT ?_
                 refine tV6 (i:=10) (N:=some 47) m11_11 rfl rfl (take_ofW HT_.out HW_.out (by kernel_rfl)) hHeld ?_
                 refine pV (i:=11) (N:=some 48) m12_11 rfl rfl qT ?_
                 refine pV (i:=12) (N:=some 49) m13_11 rfl rfl qT ?_
                 refine pV (i:=13) (N:=some 50) m14_11 rfl rfl qT ?_
                 refine pV (i:=14) (N:=some 51) m15_11 rfl rfl qT ?_
                 refine pV (i:=15) (N:=some 52) m16_11 rfl rfl qT ?_
                 refine pV (i:=16) (N:=some 53) m17_11 rfl rfl qT ?_
                 refine pV (i:=17) (N:=some 54) m18_11 rfl rfl qT ?_
                 refine done_ (done_of HT_.out (by kernel_rfl)) ?_
                 try go_wp2
                 replace HO_6:=am qq144;replace HL261_2:=am (Kd.R_drew HL261_2.out);replace HL262_2:=am (Kd.R_drew HL262_2.out);replace HR261_2:=am (Kd.C_drew HR261_2.out);replace HR262_2:=am (Kd.C_drew HR262_2.out);replace HB:=am qq141;have p263 : 0 ≤ (x9_2 : Int):=odt qq94;have q263 : x9_2 < (x6_4.length : Int):=odt qq94;obtain ⟨ad263,A263_2,c263_2,e263,hx263_0,hx263_1,hx263_2,hl263_2,hi263_2⟩:=at_T45 (Kd.S_reads' HO_6.out).2.2 x9_2 p263 q263;obtain rfl : ad261 = ad263:=(by injection e263)
                 obtain ⟨ce263,hce263,hMe263,hcc263⟩:=Kd.S_get HO_6.out z45 x9_2 p263 (by first | exact q263 | exact odt qq94 | (have e_:=(Kd.S_reads' HO_6.out).1;omega));obtain ⟨ve263_2,rfl,ge263_2⟩:=k45_openM hMe263;have hv263_2:=hcc263 2 _ rfl;rw [add_field _ _ 2 (by omega)] at hv263_2;replace hv263_2:=Option.some.inj (hv263_2.symm.trans hx263_2);rw [hv263_2] at ge263_2;have HL263_2:=am (show Kd.R (Kd.int .i64) 3 _ _ _ _ ((rd_T45 x6_4 x9_2).f2) from ge263_2);clear hv263_2 ge263_2;have HX263_2:=am hx263_2;clear hcc263 hce263;have HR263_2:=am hi263_2;have HC263_2:=am hl263_2;clear hi263_2 hl263_2;replace p263:=eq_true p263;replace q263:=eq_true q263;have p264 : 0 ≤ (x8_4 : Int):=odt qq94;have q264 : x8_4 < (l1.length : Int):=odt qq94;obtain ⟨ad264,e264,hx264_0,hx264_1,hx264_2,hx264_3⟩:=at_T49 HR1.out x8_4 p264 q264;have hw264_3:=hx264_3;have hw264_2:=hx264_2;have hw264_1:=hx264_1;have hw264_0:=hx264_0
                 cases e264
                 replace hx264_0:=(ct HB.out hx264_0 :)
                 replace hx264_1:=(ct HB.out hx264_1 :)
                 replace hx264_2:=(ct HB.out hx264_2 :)
                 replace hx264_3:=(ct HB.out hx264_3 :)
                 replace p264:=eq_true p264;replace q264:=eq_true q264;obtain ⟨go32,co32,eo32,gb32,gl32,cl32,HG32⟩:=Kd.S_form HO_6.out (by have h_ : (x9_2 : Int) < ((x6_4.length : Int) : Int):=odt qq94;have h2_ : 0 ≤ (x9_2 : Int):=(odt qq94);omega);(first | cases eo32 | (injection eo32 with ea_ en_ ec_;(first | subst ea_ | (injection ea_ with ea_;subst ea_));subst ec_;clear en_));have GB32:=am gb32;have GG32:=am HG32;clear gb32 gl32 HG32;(first | simp only [add_plain] at hx261_0 | skip);(first | simp only [add_plain] at hx261_1 | skip);(first | simp only [add_plain] at hx261_2 | skip);(first | simp only [add_plain] at hx262_0 | skip);(first | simp only [add_plain] at hx262_1 | skip);(first | simp only [add_plain] at hx262_2 | skip);(first | simp only [add_plain] at hx263_0 | skip);(first | simp only [add_plain] at hx263_1 | skip);(first | simp only [add_plain] at hx263_2 | skip);obtain ⟨oki32,ce32,hcl32,hM32,hcc32,_,_,hH32⟩:=Kd.S_elem HO_6.out z45 (x9_2 : Int) (odt qq94) (by have h_ : (x9_2 : Int) < ((x6_4.length : Int) : Int):=odt qq94;first | exact h_ | (have e_:=(Kd.S_reads' HO_6.out).1;omega) | simpa using h_);obtain ⟨ve32_2,rfl,ge32_2⟩:=k45_openM hM32;have hv32:=hcc32 2 _ rfl;have hX32:=HX263_2.out;(try simp only [add_plain] at hX32);(try simp only [Nat.add_zero] at hv32);replace hv32:=Option.some.inj (hv32.symm.trans hX32);subst hv32;clear hX32 hcc32 hcl32;have UU32:=am (show Kd.R (Kd.int .i64) 3 _ w.heap.size oki32 (.slice A263_2 ((rd_T45 x6_4 x9_2).f2).length c263_2) ((rd_T45 x6_4 x9_2).f2) from ge32_2);have HH32:=am hH32;have HN32:=am (Kd.S_reads' HO_6.out).1;clear hH32 ge32_2;refine start_ (n:=17) (S:=fun w' => w'.cell? ⟨go32,((x9_2).toNat * 3),none⟩ = some (.int .i64 ((rd_T45 x6_4 x9_2).f0)) ∧ w'.cell? ⟨go32,((x9_2).toNat * 3) + 1,none⟩ = some (.int .i64 ((rd_T45 x6_4 x9_2).f1)) ∧ w'.cell? ⟨go32,((x9_2).toNat * 3) + 2,none⟩ = some (.slice A263_2 ((rd_T45 x6_4 x9_2).f2).length c263_2) ∧ w'.cell? (ad264.add ((x8_4).toNat * 4)) = some (.int .i64 ((rd_T49 l1 x8_4).f0)) ∧ w'.cell? ⟨(ad264.add ((x8_4).toNat * 4)).block,(ad264.add ((x8_4).toNat * 4)).off + 1,none⟩ = some (.int .i64 ((rd_T49 l1 x8_4).f1)) ∧ w'.cell? ⟨(ad264.add ((x8_4).toNat * 4)).block,(ad264.add ((x8_4).toNat * 4)).off + 2,none⟩ = some (.int .i64 ((rd_T49 l1 x8_4).f2)) ∧ w'.cell? ⟨(ad264.add ((x8_4).toNat * 4)).block,(ad264.add ((x8_4).toNat * 4)).off + 3,none⟩ = some (.bool ((rd_T49 l1 x8_4).f3))) (ds:=[16]) #[Z,Z,Z,Z,Z,Z,Z,Z,Z,Z,Z,Z,Z,Z,Z,Z,Z] (by kernel_rfl) rfl rfl ⟨hx263_0,hx263_1,hx263_2,(ct HB.out hw264_0 :),(ct HB.out hw264_1 :),(ct HB.out hw264_2 :),(ct HB.out hw264_3 :)⟩ (fun hHeld => ?_);refine with_tabW spec_PutUp.tab11 spec_PutUp.bits11 (fun HT_ HW_ => ?_)
                 generalize w30.drew = w31 at HO_6 HL261_2 HL262_2 HR261_2 HR262_2 HB GG32 HH32 HL263_2 HR263_2 HX263_2 UU32 hx261_0 hx261_1 hx261_2 hx262_0 hx262_1 hx262_2 hx263_0 hx263_1 hx263_2 hx264_0 hx264_1 hx264_2 hx264_3 hHeld ⊢
                 refine pV (i:=0) (N:=some 55) #[Y,Z,Z,Z,Z,Z,Z,Z,Z,Z,Z,Z,Z,Z,Z,Z,Z] rfl rfl qT ?_
                 refine pV (i:=1) (N:=some 56) #[Y,Y,Z,Z,Z,Z,Z,Z,Z,Z,Z,Z,Z,Z,Z,Z,Z] rfl rfl qT ?_
                 refine pV (i:=2) (N:=some 57) #[Y,Y,Y,Z,Z,Z,Z,Z,Z,Z,Z,Z,Z,Z,Z,Z,Z] rfl rfl qT ?_
                 refine pV (i:=3) (N:=some 58) #[Y,Y,Y,Y,Z,Z,Z,Z,Z,Z,Z,Z,Z,Z,Z,Z,Z] rfl rfl qT ?_
                 refine pV (i:=4) (N:=some 59) #[Y,Y,Y,Y,Y,Z,Z,Z,Z,Z,Z,Z,Z,Z,Z,Z,Z] rfl rfl qT ?_
                 refine pV (i:=5) (N:=some 60) #[Y,Y,Y,Y,Y,Y,Z,Z,Z,Z,Z,Z,Z,Z,Z,Z,Z] rfl rfl qT ?_
                 refine pV (i:=7) (N:=some 62) #[Y,Y,Y,Y,Y,Y,Z,Y,Z,Z,Z,Z,Z,Z,Z,Z,Z] rfl rfl qT ?_
                 refine pV (i:=8) (N:=some 63) #[Y,Y,Y,Y,Y,Y,Z,Y,Y,Z,Z,Z,Z,Z,Z,Z,Z] rfl rfl qT ?_
                 refine pV (i:=9) (N:=some 64) #[Y,Y,Y,Y,Y,Y,Z,Y,Y,Y,Z,Z,Z,Z,Z,Z,Z] rfl rfl qT ?_
                 refine pV (i:=10) (N:=some 65) #[Y,Y,Y,Y,Y,Y,Z,Y,Y,Y,Y,Z,Z,Z,Z,Z,Z] rfl rfl qT ?_
                 refine tV7 (i:=6) (N:=some 61) #[Y,Y,Y,Y,Y,Y,Y,Y,Y,Y,Y,Z,Z,Z,Z,Z,Z] rfl rfl (take_ofW HT_.out HW_.out (by kernel_rfl)) hHeld ?_
                 refine tV7 (i:=11) (N:=some 66) #[Y,Y,Y,Y,Y,Y,Y,Y,Y,Y,Y,Y,Z,Z,Z,Z,Z] rfl rfl (take_ofW HT_.out HW_.out (by kernel_rfl)) hHeld ?_
                 refine one_ (i:=12) (N:=some 67) #[Y,Y,Y,Y,Y,Y,Y,Y,Y,Y,Y,Y,Y,Z,Z,Z,Z] rfl rfl (one_of HT_.out (by kernel_rfl)) (by decide) (fun K hK => ?_);refine value_ (w1:=?_) (v:=?_) (by rfl) rfl ?_ ?_;rotate_left 2
                 ·go_simp
                  constructor
                  ·rfl
                  ·rfl
                 refine hK.out _ _ ⟨(World.cell?_alloc_lt _ _ _ (bl _ _ (hHeld.1))).trans (hHeld.1),(World.cell?_alloc_lt _ _ _ (bl _ _ (hHeld.2.1))).trans (hHeld.2.1),(World.cell?_alloc_lt _ _ _ (bl _ _ (hHeld.2.2.1))).trans (hHeld.2.2.1),(World.cell?_alloc_lt _ _ _ (bl _ _ ((ct HB.out hw264_0 :)))).trans ((ct HB.out hw264_0 :)),(World.cell?_alloc_lt _ _ _ (bl _ _ ((ct HB.out hw264_1 :)))).trans ((ct HB.out hw264_1 :)),(World.cell?_alloc_lt _ _ _ (bl _ _ ((ct HB.out hw264_2 :)))).trans ((ct HB.out hw264_2 :)),(World.cell?_alloc_lt _ _ _ (bl _ _ ((ct HB.out hw264_3 :)))).trans ((ct HB.out hw264_3 :))⟩ (fun hHeld => ?_);clear hK K;refine norm_ (a':=?_) ?_ ?_;rotate_left
                 ·show Act.put _ (some 67) _ = _
                  simp only [Act.put,sA,s0,s1,i64_w,i32_w];rfl
                 refine one_ (i:=13) (N:=some 68) #[Y,Y,Y,Y,Y,Y,Y,Y,Y,Y,Y,Y,Y,Y,Z,Z,Z] rfl rfl (one_of HT_.out (by kernel_rfl)) (by decide) (fun K hK => ?_);refine Kd.R_append_step (Kd.int .i64) (w0:=w) w.heap.size (by rfl) (.tmp 61) (.tmp 67) 43 3 (.int .i64 0) 8 rfl Try.underlying43 info3 rfl (by decide) (by omega) (.slice A263_2 ((rd_T45 x6_4 x9_2).f2).length c263_2) ((rd_T45 x6_4 x9_2).f2) ((rd_T49 l1 x8_4).f0) [.int .i64 ((rd_T49 l1 x8_4).f0)] (fun k_ => oki32 k_ ∨ ((fun _ => True)) k_ ∧ w31.heap.size ≤ k_) (fun _ => False) rfl rfl ?aP (fun _ hk => hk.elim) ?aF ?aO ?aB ?aS ?aL ?_;(case aP => exact rfl);(case aB => exact qq63);(case aF => exact qq97);(case aO => exact (by (with_reducible repeat (first | apply kA | apply kN | apply kD));exact Kd.R_mono UU32.out (fun _ hk => .inl hk)));(case aS => exact qq60);(case aL => have:=LMc28.out;omega);intro v266 w33 ho hb hg hat;(first | have HS0_:=cell_grown hg (hHeld.1) qq4 | have HS0_:=cell_grown hg (cell_unalloc (hHeld.1) qq22) qq4);(first | have HS1_:=cell_grown hg (hHeld.2.1) qq4 | have HS1_:=cell_grown hg (cell_unalloc (hHeld.2.1) qq22) qq4);(first | have HS2_:=cell_grown hg (hHeld.2.2.1) qq4 | have HS2_:=cell_grown hg (cell_unalloc (hHeld.2.2.1) qq22) qq4);rw [← Ny265.out] at ho;replace HB:=am (hb);replace HH32:=am (Kd.H_grown (Kd.H_widen (by repeat (first | exact HH32.out | refine Kd.H_alloc ?_ _ | refine Kd.H_drewN ?_ _ | refine Kd.H_drew ?_))) hg (fun k_ e_ => .inl (UU32.out.1 k_ e_)));have HO267:=am (ho);clear HO_6 UU32 HL261_2 HL262_2 HL263_2;clear ho hb hg hat;have p29 : 0 ≤ (x9_2 : Int):=odt qq94;have q29 : (x9_2 : Int) < ((x6_4.length : Int) : Int):=odt qq94;replace p29:=eq_true p29;replace q29:=eq_true q29;obtain ⟨Ao36,co36,eo36⟩:=Kd.R_slice HO267.out;(first | subst eo36 | (injection eo36 with f1_ f2_ f3_;have f4_:=f1_.symm;have f5_:=f3_.symm;clear f1_ f2_ f3_;subst f4_;subst f5_));obtain ⟨_,_,hraw34,_,_,hcc34,_⟩:=Kd.H_raw HH32.out (odt qq94) qq14;obtain ⟨_,hfr34⟩:=Kd.H_at HH32.out (odt qq94) qq14;have hx34_0:=hcc34 2 _ rfl;have hf34_0:=hfr34 2;(try rw [show (k45).sz = 3 from rfl] at hx34_0);(try rw [show (k45).sz = 3 from rfl] at hf34_0);have HP34:=Kd.S_seg0 HH32.out (odt qq94) qq14 (seg:=[.slice Ao36 y265.length co36]) (j:=2) (show 3 ≤ 3 from by decide) (x':=(⟨(rd_T45 x6_4 x9_2).f0,(rd_T45 x6_4 x9_2).f1,y265⟩ : S45)) (k45_mkM _ _ _ (⟨(rd_T45 x6_4 x9_2).f0,(rd_T45 x6_4 x9_2).f1,y265⟩ : S45) HO267.out) (fun _ hk => hk);clear hcc34 hfr34;have HS34:=HP34.1;rw [← Ny268.out] at HS34;have HQ34:=am HS34;obtain ⟨_,hgg34⟩:=Kd.R_typed hraw34 go32 rfl;have GG34_:=am hgg34;clear HP34 HS34 hgg34;refine hK.out _ _ ⟨HS0_,HS1_,HS2_,(ct HB.out hw264_0 :),(ct HB.out hw264_1 :),(ct HB.out hw264_2 :),(ct HB.out hw264_3 :)⟩ (fun hHeld => ?_);clear hK K;refine norm_ (a':=?_) ?_ ?_;rotate_left
                 ·show Act.put _ (some 68) _ = _
                  simp only [Act.put,sA,s0,s1,i64_w,i32_w];rfl
                 refine pV (i:=14) (N:=some 69) #[Y,Y,Y,Y,Y,Y,Y,Y,Y,Y,Y,Y,Y,Y,Y,Z,Z] rfl rfl qT ?_
                 refine pV (i:=15) (N:=some 70) #[Y,Y,Y,Y,Y,Y,Y,Y,Y,Y,Y,Y,Y,Y,Y,Y,Z] rfl rfl qT ?_
                 refine last_ (i:=16) (N:=none) #[Y,Y,Y,Y,Y,Y,Y,Y,Y,Y,Y,Y,Y,Y,Y,Y,Y] rfl rfl (one_of HT_.out (by kernel_rfl)) (by decide) (fun K hK => ?_);refine skip_ (w1:=?_) (by rfl) rfl ?_ ?_;rotate_left
                 ·go_simp;rfl
                 refine hK.out _ _ ?_;clear hK K;refine done_ (done_of HT_.out (by kernel_rfl)) ?_
                 try go_wp2
                 (try simp only [← hl6_4])
                 go_roundg k4
                 case measure => have:=HK1.out;have:=HK2.out;have:=HJ13.out;have:=HK4.out;omega
                 case rel => exact ⟨(y268),(wrap64 (x8_4 + 1)),qq95,H',⟨qq90⟩,⟨by (try simp only [hl6_2]);(try simp only [hl6_4]);(with_reducible repeat (first | apply Kd.S_alloc | apply Kd.S_drewN | apply Kd.S_drew));exact HQ34.out⟩,⟨by repeat (first | (with_reducible first | exact HB.out | apply bA | apply bN | apply bD | refine below_set ?_ GB32.out) | exact HB.out)⟩⟩
                ·rw [if_neg c28] at H;exact absurd H (by simp)
               ·rw [if_neg c27] at H;exact absurd H (by simp)
              ·rw [if_neg c26] at H;have c26b0 : decide (x8_4 < (l1.length : Int)) = false:=decide_eq_false c26;clear c26;have H':=am H;clear H
               try go_wp2
               replace HO_6:=am qq144;replace HB:=am qq141;have p261 : 0 ≤ (x9_2 : Int):=odt qq94;have q261 : x9_2 < (x6_4.length : Int):=odt qq94;obtain ⟨ad261,A261_2,c261_2,e261,hx261_0,hx261_1,hx261_2,hl261_2,hi261_2⟩:=at_T45 (Kd.S_reads' HO_6.out).2.2 x9_2 p261 q261
               cases e261
               obtain ⟨ce261,hce261,hMe261,hcc261⟩:=Kd.S_get HO_6.out z45 x9_2 p261 qq53;obtain ⟨ve261_2,rfl,ge261_2⟩:=k45_openM hMe261;have hv261_2:=hcc261 2 _ rfl;rw [add_field _ _ 2 (by omega)] at hv261_2;replace hv261_2:=Option.some.inj (hv261_2.symm.trans hx261_2);rw [hv261_2] at ge261_2;have HL261_2:=am qq122;clear hv261_2 ge261_2;have HX261_2:=am hx261_2;clear hcc261 hce261;have HR261_2:=am hi261_2;have HC261_2:=am hl261_2;clear hi261_2 hl261_2;replace p261:=eq_true p261;replace q261:=eq_true q261;have p262 : 0 ≤ (x9_2 : Int):=odt qq94;have q262 : x9_2 < (x6_4.length : Int):=odt qq94;obtain ⟨ad262,A262_2,c262_2,e262,hx262_0,hx262_1,hx262_2,hl262_2,hi262_2⟩:=at_T45 (Kd.S_reads' HO_6.out).2.2 x9_2 p262 q262;obtain rfl : ad261 = ad262:=(by injection e262)
               obtain ⟨ce262,hce262,hMe262,hcc262⟩:=Kd.S_get HO_6.out z45 x9_2 p262 qq52;obtain ⟨ve262_2,rfl,ge262_2⟩:=k45_openM hMe262;have hv262_2:=hcc262 2 _ rfl;rw [add_field _ _ 2 (by omega)] at hv262_2;replace hv262_2:=Option.some.inj (hv262_2.symm.trans hx262_2);rw [hv262_2] at ge262_2;have HL262_2:=am qq123;clear hv262_2 ge262_2;have HX262_2:=am hx262_2;clear hcc262 hce262;have HR262_2:=am hi262_2;have HC262_2:=am hl262_2;clear hi262_2 hl262_2;replace p262:=eq_true p262;replace q262:=eq_true q262;have ea_:=Option.some.inj (hx261_2.symm.trans hx262_2)
               injection ea_ with ea_ en_ ec_
               subst ea_;subst ec_;clear en_;refine start_ (n:=18) (S:=fun w' => w'.cell? (ad261.add ((x9_2).toNat * 3)) = some (.int .i64 ((rd_T45 x6_4 x9_2).f0)) ∧ w'.cell? ⟨(ad261.add ((x9_2).toNat * 3)).block,(ad261.add ((x9_2).toNat * 3)).off + 1,none⟩ = some (.int .i64 ((rd_T45 x6_4 x9_2).f1)) ∧ w'.cell? ⟨(ad261.add ((x9_2).toNat * 3)).block,(ad261.add ((x9_2).toNat * 3)).off + 2,none⟩ = some (.slice A261_2 ((rd_T45 x6_4 x9_2).f2).length c261_2) ∧ w'.cell? (ad261.add ((x9_2).toNat * 3)) = some (.int .i64 ((rd_T45 x6_4 x9_2).f0)) ∧ w'.cell? ⟨(ad261.add ((x9_2).toNat * 3)).block,(ad261.add ((x9_2).toNat * 3)).off + 1,none⟩ = some (.int .i64 ((rd_T45 x6_4 x9_2).f1)) ∧ w'.cell? ⟨(ad261.add ((x9_2).toNat * 3)).block,(ad261.add ((x9_2).toNat * 3)).off + 2,none⟩ = some (.slice A261_2 ((rd_T45 x6_4 x9_2).f2).length c261_2)) (ds:=[]) m0_11 (by kernel_rfl) rfl rfl ⟨hx261_0,hx261_1,hx261_2,hx262_0,hx262_1,hx262_2⟩ (fun hHeld => ?_);refine with_tabW spec_PutUp.tab10 spec_PutUp.bits10 (fun HT_ HW_ => ?_)
               generalize wr.drew = w37 at HO_6 HB HL261_2 HL262_2 HR261_2 HR262_2 HX261_2 HX262_2 hx261_0 hx261_1 hx261_2 hx262_0 hx262_1 hx262_2 hHeld ⊢
               refine pV (i:=0) (N:=some 37) m1_11 rfl rfl qT ?_
               refine pV (i:=1) (N:=some 38) m2_11 rfl rfl qT ?_
               refine pV (i:=2) (N:=some 39) m3_11 rfl rfl qT ?_
               refine pV (i:=3) (N:=some 40) m4_11 rfl rfl qT ?_
               refine pV (i:=6) (N:=some 43) m5_11 rfl rfl qT ?_
               refine pV (i:=7) (N:=some 44) m6_11 rfl rfl qT ?_
               refine pV (i:=8) (N:=some 45) m7_11 rfl rfl qT ?_
               refine pV (i:=9) (N:=some 46) m8_11 rfl rfl qT ?_
               refine tV6 (i:=4) (N:=some 41) m9_11 rfl rfl (take_ofW HT_.out HW_.out (by kernel_rfl)) hHeld ?_
               refine pV (i:=5) (N:=some 42) m10_11 rfl rfl qT ?_
               refine tV6 (i:=10) (N:=some 47) m11_11 rfl rfl (take_ofW HT_.out HW_.out (by kernel_rfl)) hHeld ?_
               refine pV (i:=11) (N:=some 48) m12_11 rfl rfl qT ?_
               refine pV (i:=12) (N:=some 49) m13_11 rfl rfl qT ?_
               refine pV (i:=13) (N:=some 50) m14_11 rfl rfl qT ?_
               refine pV (i:=14) (N:=some 51) m15_11 rfl rfl qT ?_
               refine pV (i:=15) (N:=some 52) m16_11 rfl rfl qT ?_
               refine pV (i:=16) (N:=some 53) m17_11 rfl rfl qT ?_
               refine pV (i:=17) (N:=some 54) m18_11 rfl rfl qT ?_
               refine done_ (done_of HT_.out (by kernel_rfl)) ?_
               try go_wp2
               (try simp only [← hl6_2,← hl6_4])
               go_roundg k4
               case measure => have:=HK1.out;have:=HK2.out;have:=HJ13.out;have:=HK4.out;omega
               case rel => exact ⟨(x6_4),(x8_4),(wrap64 (x9_2 + 1)),qq95,qq95,H',⟨qq90⟩,⟨qq31⟩,⟨qq73⟩⟩
             ·rw [if_neg c25] at H;have c25b0 : decide ((((rd_T45 x6_4 x9_2).f2).length : Int) < ((rd_T45 x6_4 x9_2).f1)) = false:=decide_eq_false c25;clear c25;have H':=am H;clear H
              try go_wp2
              replace HO_6:=am qq144;replace HB:=am qq141;have p261 : 0 ≤ (x9_2 : Int):=odt qq94;have q261 : x9_2 < (x6_4.length : Int):=odt qq94;obtain ⟨ad261,A261_2,c261_2,e261,hx261_0,hx261_1,hx261_2,hl261_2,hi261_2⟩:=at_T45 (Kd.S_reads' HO_6.out).2.2 x9_2 p261 q261
              cases e261
              obtain ⟨ce261,hce261,hMe261,hcc261⟩:=Kd.S_get HO_6.out z45 x9_2 p261 qq53;obtain ⟨ve261_2,rfl,ge261_2⟩:=k45_openM hMe261;have hv261_2:=hcc261 2 _ rfl;rw [add_field _ _ 2 (by omega)] at hv261_2;replace hv261_2:=Option.some.inj (hv261_2.symm.trans hx261_2);rw [hv261_2] at ge261_2;have HL261_2:=am qq122;clear hv261_2 ge261_2;have HX261_2:=am hx261_2;clear hcc261 hce261;have HR261_2:=am hi261_2;have HC261_2:=am hl261_2;clear hi261_2 hl261_2;replace p261:=eq_true p261;replace q261:=eq_true q261;have p262 : 0 ≤ (x9_2 : Int):=odt qq94;have q262 : x9_2 < (x6_4.length : Int):=odt qq94;obtain ⟨ad262,A262_2,c262_2,e262,hx262_0,hx262_1,hx262_2,hl262_2,hi262_2⟩:=at_T45 (Kd.S_reads' HO_6.out).2.2 x9_2 p262 q262;obtain rfl : ad261 = ad262:=(by injection e262)
              obtain ⟨ce262,hce262,hMe262,hcc262⟩:=Kd.S_get HO_6.out z45 x9_2 p262 qq52;obtain ⟨ve262_2,rfl,ge262_2⟩:=k45_openM hMe262;have hv262_2:=hcc262 2 _ rfl;rw [add_field _ _ 2 (by omega)] at hv262_2;replace hv262_2:=Option.some.inj (hv262_2.symm.trans hx262_2);rw [hv262_2] at ge262_2;have HL262_2:=am qq123;clear hv262_2 ge262_2;have HX262_2:=am hx262_2;clear hcc262 hce262;have HR262_2:=am hi262_2;have HC262_2:=am hl262_2;clear hi262_2 hl262_2;replace p262:=eq_true p262;replace q262:=eq_true q262;have ea_:=Option.some.inj (hx261_2.symm.trans hx262_2)
              injection ea_ with ea_ en_ ec_
              subst ea_;subst ec_;clear en_;refine start_ (n:=18) (S:=fun w' => w'.cell? (ad261.add ((x9_2).toNat * 3)) = some (.int .i64 ((rd_T45 x6_4 x9_2).f0)) ∧ w'.cell? ⟨(ad261.add ((x9_2).toNat * 3)).block,(ad261.add ((x9_2).toNat * 3)).off + 1,none⟩ = some (.int .i64 ((rd_T45 x6_4 x9_2).f1)) ∧ w'.cell? ⟨(ad261.add ((x9_2).toNat * 3)).block,(ad261.add ((x9_2).toNat * 3)).off + 2,none⟩ = some (.slice A261_2 ((rd_T45 x6_4 x9_2).f2).length c261_2) ∧ w'.cell? (ad261.add ((x9_2).toNat * 3)) = some (.int .i64 ((rd_T45 x6_4 x9_2).f0)) ∧ w'.cell? ⟨(ad261.add ((x9_2).toNat * 3)).block,(ad261.add ((x9_2).toNat * 3)).off + 1,none⟩ = some (.int .i64 ((rd_T45 x6_4 x9_2).f1)) ∧ w'.cell? ⟨(ad261.add ((x9_2).toNat * 3)).block,(ad261.add ((x9_2).toNat * 3)).off + 2,none⟩ = some (.slice A261_2 ((rd_T45 x6_4 x9_2).f2).length c261_2)) (ds:=[]) m0_11 (by kernel_rfl) rfl rfl ⟨hx261_0,hx261_1,hx261_2,hx262_0,hx262_1,hx262_2⟩ (fun hHeld => ?_);refine with_tabW spec_PutUp.tab10 spec_PutUp.bits10 (fun HT_ HW_ => ?_)
              generalize wr.drew = w38 at HO_6 HB HL261_2 HL262_2 HR261_2 HR262_2 HX261_2 HX262_2 hx261_0 hx261_1 hx261_2 hx262_0 hx262_1 hx262_2 hHeld ⊢
              refine pV (i:=0) (N:=some 37) m1_11 rfl rfl qT ?_
              refine pV (i:=1) (N:=some 38) m2_11 rfl rfl qT ?_
              refine pV (i:=2) (N:=some 39) m3_11 rfl rfl qT ?_
              refine pV (i:=3) (N:=some 40) m4_11 rfl rfl qT ?_
              refine pV (i:=6) (N:=some 43) m5_11 rfl rfl qT ?_
              refine pV (i:=7) (N:=some 44) m6_11 rfl rfl qT ?_
              refine pV (i:=8) (N:=some 45) m7_11 rfl rfl qT ?_
              refine pV (i:=9) (N:=some 46) m8_11 rfl rfl qT ?_
              refine tV6 (i:=4) (N:=some 41) m9_11 rfl rfl (take_ofW HT_.out HW_.out (by kernel_rfl)) hHeld ?_
              refine pV (i:=5) (N:=some 42) m10_11 rfl rfl qT ?_
              refine tV6 (i:=10) (N:=some 47) m11_11 rfl rfl (take_ofW HT_.out HW_.out (by kernel_rfl)) hHeld ?_
              refine pV (i:=11) (N:=some 48) m12_11 rfl rfl qT ?_
              refine pV (i:=12) (N:=some 49) m13_11 rfl rfl qT ?_
              refine pW (i:=13) (N:=some 50) m14_11 rfl rfl qT ?_
              refine pW (i:=14) (N:=some 51) m15_11 rfl rfl qT ?_
              refine pW (i:=15) (N:=some 52) m16_11 rfl rfl qT ?_
              refine pW (i:=16) (N:=some 53) m17_11 rfl rfl qT ?_
              refine pV (i:=17) (N:=some 54) m18_11 rfl rfl qT ?_
              refine done_ (done_of HT_.out (by kernel_rfl)) ?_
              try go_wp2
              (try simp only [← hl6_2,← hl6_4])
              go_roundg k4
              case measure => have:=HK1.out;have:=HK2.out;have:=HJ13.out;have:=HK4.out;omega
              case rel => exact ⟨(x6_4),(x8_4),(wrap64 (x9_2 + 1)),qq95,qq95,H',⟨qq90⟩,⟨qq31⟩,⟨qq73⟩⟩
            ·rw [if_neg c24] at H;exact absurd H (by simp)
           ·rw [if_neg c23] at H;exact absurd H (by simp)
        ·replace c22:=Bool.eq_false_iff.mpr c22;subst c22;have H1 : (if x8_2 < (l1.length : Int) then ((spec_l23Copy.f kj13 l0).bind fun t269 => (some (t269,false))) else ((spec_AreTents.f kj13 l0).bind fun t272 => (if t272 = true then ((spec_AreCrew.f kj13 l1).bind fun t273 => (if t273 = true then (some (x6_2,true)) else ((spec_l23Copy.f kj13 l0).bind fun t274 => (some (t274,false))))) else ((spec_l23Copy.f kj13 l0).bind fun t277 => (some (t277,false)))))) = some (r1,r2):=by rw [if_neg (show ¬ (false = true) by decide)] at H;exact H
         clear H;have H:=H1;clear H1
         by_cases c39 : x8_2 < (l1.length : Int)
         ·rw [if_pos c39] at H;have c39b0 : decide (x8_2 < (l1.length : Int)) = true:=decide_eq_true c39;clear c39;replace H:=bS.mp H;obtain ⟨t269,A400,H⟩:=H;replace H : (some (t269,false)) = some (r1,r2):=H;have A40:=am A400;clear A400;simp only [Option.some.injEq,Prod.mk.injEq] at H;obtain ⟨rfl,rfl⟩:=H;go_wp2_with (first | ((with_reducible refine gate_callee (f:=26) rfl ?_);refine goesL_ (some 88) rfl rfl Try.func26 (by kernel_rfl) rfl #[.slice A0 l0.length c0] rfl qq50 ?_;(with_reducible refine (spec_l23Copy.calls kj13 _ _ l0 t269 _ ?side1 ?side2 A40.out).mono ?_);(case side1 => exact qq29);(case side2 => exact HC0.out);rintro e w41 ⟨v270,rfl,ho0,hb⟩;refine ⟨_,rfl,?_⟩;have HO271:=am qq124;replace HO_6:=am qq128;replace HB:=am qq138;(try clear hb);(try clear hb2);(try clear hk);(try clear hi);(try clear ho0)))
          go_ret2
          exact ⟨_,qq81,by (with_reducible repeat (first | apply Kd.S_alloc | apply Kd.S_drewN | apply Kd.S_drew));exact Kd.S_mono HO271.out (fun _ hk => trivial),qq73⟩
         ·rw [if_neg c39] at H;have c39b0 : decide (x8_2 < (l1.length : Int)) = false:=decide_eq_false c39;clear c39;replace H:=bS.mp H;obtain ⟨t272,A420,H⟩:=H;replace H : (if t272 = true then ((spec_AreCrew.f kj13 l1).bind fun t273 => (if t273 = true then (some (x6_2,true)) else ((spec_l23Copy.f kj13 l0).bind fun t274 => (some (t274,false))))) else ((spec_l23Copy.f kj13 l0).bind fun t277 => (some (t277,false)))) = some (r1,r2):=H;have A42:=am A420;clear A420
          by_cases c43 : t272 = true
          ·subst c43;have H1 : ((spec_AreCrew.f kj13 l1).bind fun t273 => (if t273 = true then (some (x6_2,true)) else ((spec_l23Copy.f kj13 l0).bind fun t274 => (some (t274,false))))) = some (r1,r2):=by rw [if_pos rfl] at H;exact H
           clear H;have H:=H1;clear H1;replace H:=bS.mp H;obtain ⟨t273,A440,H⟩:=H;replace H : (if t273 = true then (some (x6_2,true)) else ((spec_l23Copy.f kj13 l0).bind fun t274 => (some (t274,false)))) = some (r1,r2):=H;have A44:=am A440;clear A440
           by_cases c45 : t273 = true
           ·subst c45;have H1 : (some (x6_2,true)) = some (r1,r2):=by rw [if_pos rfl] at H;exact H
            clear H;have H:=H1;clear H1;simp only [Option.some.injEq,Prod.mk.injEq] at H;obtain ⟨rfl,rfl⟩:=H;go_wp2_with (first | (go_at_call 28;(with_reducible refine (spec_AreTents.calls kj13 _ _ l0 true _ ?side1 ?side2 A42.out).mono ?_);(case side1 => exact qq29);(case side2 => exact HC0.out);rintro e w46 ⟨rfl,hb⟩;replace HO_6:=am qq143;replace HB:=am qq138;(try clear hb);(try clear hb2);(try clear hk);(try clear hi)) | (go_at_call 35;(with_reducible refine (spec_AreCrew.calls kj13 _ _ l1 true _ ?side1 ?side2 A44.out).mono ?_);(case side1 => exact qq28);(case side2 => exact HC1.out);rintro e w47 ⟨rfl,hb⟩;replace HO_6:=am qq143;replace HB:=am qq138;(try clear hb);(try clear hb2);(try clear hk);(try clear hi)))
            go_ret2
            exact ⟨_,qq81,qq75,qq73⟩
           ·replace c45:=Bool.eq_false_iff.mpr c45;subst c45;have H1 : ((spec_l23Copy.f kj13 l0).bind fun t274 => (some (t274,false))) = some (r1,r2):=by rw [if_neg (show ¬ (false = true) by decide)] at H;exact H
            clear H;have H:=H1;clear H1;replace H:=bS.mp H;obtain ⟨t274,A480,H⟩:=H;replace H : (some (t274,false)) = some (r1,r2):=H;have A48:=am A480;clear A480;simp only [Option.some.injEq,Prod.mk.injEq] at H;obtain ⟨rfl,rfl⟩:=H;go_wp2_with (first | (go_at_call 28;(with_reducible refine (spec_AreTents.calls kj13 _ _ l0 true _ ?side1 ?side2 A42.out).mono ?_);(case side1 => exact qq29);(case side2 => exact HC0.out);rintro e w49 ⟨rfl,hb⟩;replace HO_6:=am qq143;replace HB:=am qq138;(try clear hb);(try clear hb2);(try clear hk);(try clear hi)) | (go_at_call 35;(with_reducible refine (spec_AreCrew.calls kj13 _ _ l1 false _ ?side1 ?side2 A44.out).mono ?_);(case side1 => exact qq28);(case side2 => exact HC1.out);rintro e w50 ⟨rfl,hb⟩;replace HO_6:=am qq143;replace HB:=am qq138;(try clear hb);(try clear hb2);(try clear hk);(try clear hi)) | ((with_reducible refine gate_callee (f:=26) rfl ?_);refine goesL_ (some 88) rfl rfl Try.func26 (by kernel_rfl) rfl #[.slice A0 l0.length c0] rfl qq50 ?_;(with_reducible refine (spec_l23Copy.calls kj13 _ _ l0 t274 _ ?side1 ?side2 A48.out).mono ?_);(case side1 => exact qq29);(case side2 => exact HC0.out);rintro e w51 ⟨v275,rfl,ho0,hb⟩;refine ⟨_,rfl,?_⟩;have HO276:=am qq124;replace HO_6:=am qq128;replace HB:=am qq138;(try clear hb);(try clear hb2);(try clear hk);(try clear hi);(try clear ho0)))
            go_ret2
            exact ⟨_,qq81,by (with_reducible repeat (first | apply Kd.S_alloc | apply Kd.S_drewN | apply Kd.S_drew));exact Kd.S_mono HO276.out (fun _ hk => trivial),qq73⟩
          ·replace c43:=Bool.eq_false_iff.mpr c43;subst c43;have H1 : ((spec_l23Copy.f kj13 l0).bind fun t277 => (some (t277,false))) = some (r1,r2):=by rw [if_neg (show ¬ (false = true) by decide)] at H;exact H
           clear H;have H:=H1;clear H1;replace H:=bS.mp H;obtain ⟨t277,A520,H⟩:=H;replace H : (some (t277,false)) = some (r1,r2):=H;have A52:=am A520;clear A520;simp only [Option.some.injEq,Prod.mk.injEq] at H;obtain ⟨rfl,rfl⟩:=H;go_wp2_with (first | (go_at_call 28;(with_reducible refine (spec_AreTents.calls kj13 _ _ l0 false _ ?side1 ?side2 A42.out).mono ?_);(case side1 => exact qq29);(case side2 => exact HC0.out);rintro e w53 ⟨rfl,hb⟩;replace HO_6:=am qq143;replace HB:=am qq138;(try clear hb);(try clear hb2);(try clear hk);(try clear hi)) | ((with_reducible refine gate_callee (f:=26) rfl ?_);refine goesL_ (some 88) rfl rfl Try.func26 (by kernel_rfl) rfl #[.slice A0 l0.length c0] rfl qq50 ?_;(with_reducible refine (spec_l23Copy.calls kj13 _ _ l0 t277 _ ?side1 ?side2 A52.out).mono ?_);(case side1 => exact qq29);(case side2 => exact HC0.out);rintro e w54 ⟨v278,rfl,ho0,hb⟩;refine ⟨_,rfl,?_⟩;have HO279:=am qq124;replace HO_6:=am qq128;replace HB:=am qq138;(try clear hb);(try clear hb2);(try clear hk);(try clear hi);(try clear ho0)))
           go_ret2
           exact ⟨_,qq81,by (with_reducible repeat (first | apply Kd.S_alloc | apply Kd.S_drewN | apply Kd.S_drew));exact Kd.S_mono HO279.out (fun _ hk => trivial),qq73⟩

end Go.Proofs.Ytnghncedinngoaa.PFnTents
