/- Contracts of functions that the law FnExactPutUp reaches, for its row: lines that the kit's printer wrote for this claim, set shorter by a program of this session (own.py), and what fell in Lean proved anew. Lean checks them. -/
import Derived.Test.YtnghncedinngoaaSFnExactPutUpx0
import Derived.Test.YtnghncedinngoaaSFnExactPutUpx3
import Derived.Test.YtnghncedinngoaaSFnExactPutUpx4
import Derived.Test.YtnghncedinngoaaSFnExactPutUpx5
namespace Go.Proofs.Ytnghncedinngoaa.PFnExactPutUp
open Go.RowKit Go.Proofs.YtnghncedinngoaaW.PrintWords Go.Proofs.YtnghncedinngoaaW.PrintLast Go.Proofs.YtnghncedinngoaaW.PrintMore
attribute [local go_sem] max2_int min2_int max_two min_two max_three min_three max_four min_four   -- for this text's walks alone
set_option linter.unusedVariables false
set_option linter.unusedSimpArgs false

abbrev m0_6 : Array Bool := #[Z,Z,Z,Z,Z,Z,Z,Z,Z,Z,Z,Z,Z,Z,Z,Z,Z,Z]
abbrev m1_6 : Array Bool := #[Y,Z,Z,Z,Z,Z,Z,Z,Z,Z,Z,Z,Z,Z,Z,Z,Z,Z]
abbrev m2_6 : Array Bool := #[Y,Y,Z,Z,Z,Z,Z,Z,Z,Z,Z,Z,Z,Z,Z,Z,Z,Z]
abbrev m3_6 : Array Bool := #[Y,Y,Y,Z,Z,Z,Z,Z,Z,Z,Z,Z,Z,Z,Z,Z,Z,Z]
abbrev m4_6 : Array Bool := #[Y,Y,Y,Y,Z,Z,Z,Z,Z,Z,Z,Z,Z,Z,Z,Z,Z,Z]
abbrev m5_6 : Array Bool := #[Y,Y,Y,Y,Z,Z,Y,Z,Z,Z,Z,Z,Z,Z,Z,Z,Z,Z]
abbrev m6_6 : Array Bool := #[Y,Y,Y,Y,Z,Z,Y,Y,Z,Z,Z,Z,Z,Z,Z,Z,Z,Z]
abbrev m7_6 : Array Bool := #[Y,Y,Y,Y,Z,Z,Y,Y,Y,Z,Z,Z,Z,Z,Z,Z,Z,Z]
abbrev m8_6 : Array Bool := #[Y,Y,Y,Y,Z,Z,Y,Y,Y,Y,Z,Z,Z,Z,Z,Z,Z,Z]
abbrev m9_6 : Array Bool := #[Y,Y,Y,Y,Y,Z,Y,Y,Y,Y,Z,Z,Z,Z,Z,Z,Z,Z]
abbrev m10_6 : Array Bool := #[Y,Y,Y,Y,Y,Y,Y,Y,Y,Y,Z,Z,Z,Z,Z,Z,Z,Z]
abbrev m11_6 : Array Bool := #[Y,Y,Y,Y,Y,Y,Y,Y,Y,Y,Y,Z,Z,Z,Z,Z,Z,Z]
abbrev m12_6 : Array Bool := #[Y,Y,Y,Y,Y,Y,Y,Y,Y,Y,Y,Y,Z,Z,Z,Z,Z,Z]
abbrev m13_6 : Array Bool := #[Y,Y,Y,Y,Y,Y,Y,Y,Y,Y,Y,Y,Y,Z,Z,Z,Z,Z]
abbrev m14_6 : Array Bool := #[Y,Y,Y,Y,Y,Y,Y,Y,Y,Y,Y,Y,Y,Y,Z,Z,Z,Z]
abbrev m15_6 : Array Bool := #[Y,Y,Y,Y,Y,Y,Y,Y,Y,Y,Y,Y,Y,Y,Y,Z,Z,Z]
abbrev m16_6 : Array Bool := #[Y,Y,Y,Y,Y,Y,Y,Y,Y,Y,Y,Y,Y,Y,Y,Y,Z,Z]
abbrev m17_6 : Array Bool := #[Y,Y,Y,Y,Y,Y,Y,Y,Y,Y,Y,Y,Y,Y,Y,Y,Y,Z]
abbrev m18_6 : Array Bool := #[Y,Y,Y,Y,Y,Y,Y,Y,Y,Y,Y,Y,Y,Y,Y,Y,Y,Y]
/-! ### spec_PutUp: function 14 -/
mutual
def spec_PutUp.l0 : Nat → List (S45) → List (S49) → List (S45) → Int → Option ((List (S45)) × Bool)
 | 0,_,_,_,_ => none
 | k + 1,x0,x1,x6,x7 => if x7 < (x6.length : Int) then (if 0 ≤ x7 then (spec_PutUp.l0 k x0 x1 (x6.set (x7 : Int).toNat (⟨(rd_T45 x6 x7).f0,(rd_T45 x6 x7).f1,(([] : List Int))⟩ : S45)) (wrap64 (x7 + 1))) else (none)) else (spec_PutUp.l1 k x0 x1 x6 0 0)
def spec_PutUp.l1 : Nat → List (S45) → List (S49) → List (S45) → Int → Int → Option ((List (S45)) × Bool)
 | 0,_,_,_,_,_ => none
 | k + 1,x0,x1,x6,x8,x9 => if x9 < (x6.length : Int) then ((spec_AreTents.f k x0).bind fun t192 => (if t192 = true then ((spec_AreCrew.f k x1).bind fun t193 => (spec_PutUp.j2 k x0 x1 x6 x8 x9 t193)) else (spec_PutUp.j2 k x0 x1 x6 x8 x9 false))) else (spec_PutUp.j2 k x0 x1 x6 x8 x9 false)
def spec_PutUp.j2 : Nat → List (S45) → List (S49) → List (S45) → Int → Int → Bool → Option ((List (S45)) × Bool)
 | 0,_,_,_,_,_,_ => none
 | k + 1,x0,x1,x6,x8,x9,x34 => if x34 = true then (spec_PutUp.l2 k x0 x1 x6 x8 x9) else (if x8 < (x1.length : Int) then ((spec_l23Copy.f k x0).bind fun t202 => (some (t202,false))) else ((spec_AreTents.f k x0).bind fun t205 => (if t205 = true then ((spec_AreCrew.f k x1).bind fun t206 => (if t206 = true then (some (x6,true)) else ((spec_l23Copy.f k x0).bind fun t207 => (some (t207,false))))) else ((spec_l23Copy.f k x0).bind fun t210 => (some (t210,false))))))
def spec_PutUp.l2 : Nat → List (S45) → List (S49) → List (S45) → Int → Int → Option ((List (S45)) × Bool)
 | 0,_,_,_,_,_ => none
 | k + 1,x0,x1,x6,x8,x9 => if 0 ≤ x9 then (if x9 < (x6.length : Int) then (if (((rd_T45 x6 x9).f2).length : Int) < ((rd_T45 x6 x9).f1) then (if x8 < (x1.length : Int) then (if 0 ≤ x8 then (if ((rd_T45 x6 x9).f2).length < 17592186044416 then (spec_PutUp.l2 k x0 x1 (x6.set (x9 : Int).toNat (⟨(rd_T45 x6 x9).f0,(rd_T45 x6 x9).f1,(((rd_T45 x6 x9).f2) ++ [(rd_T49 x1 x8).f0])⟩ : S45)) (wrap64 (x8 + 1)) x9) else (none)) else (none)) else (spec_PutUp.l1 k x0 x1 x6 x8 (wrap64 (x9 + 1)))) else (spec_PutUp.l1 k x0 x1 x6 x8 (wrap64 (x9 + 1)))) else (none)) else (none)
end
def spec_PutUp.f (k : Nat) (l0 : List (S45)) (l1 : List (S49)) : Option ((List (S45)) × Bool) := (spec_l23Copy.f k l0).bind fun t185 => (spec_PutUp.l0 k l0 l1 t185 0)
theorem spec_PutUp.mono_l : ∀ k, (∀ y0 y1 y2 y3, LeO (spec_PutUp.l0 k y0 y1 y2 y3) (spec_PutUp.l0 (k + 1) y0 y1 y2 y3)) ∧ (∀ y0 y1 y2 y3 y4, LeO (spec_PutUp.l1 k y0 y1 y2 y3 y4) (spec_PutUp.l1 (k + 1) y0 y1 y2 y3 y4)) ∧ (∀ y0 y1 y2 y3 y4 y5, LeO (spec_PutUp.j2 k y0 y1 y2 y3 y4 y5) (spec_PutUp.j2 (k + 1) y0 y1 y2 y3 y4 y5)) ∧ (∀ y0 y1 y2 y3 y4, LeO (spec_PutUp.l2 k y0 y1 y2 y3 y4) (spec_PutUp.l2 (k + 1) y0 y1 y2 y3 y4))
 | 0 => ⟨fun _ _ _ _ r h => by simp [spec_PutUp.l0] at h,fun _ _ _ _ _ r h => by simp [spec_PutUp.l1] at h,fun _ _ _ _ _ _ r h => by simp [spec_PutUp.j2] at h,fun _ _ _ _ _ r h => by simp [spec_PutUp.l2] at h⟩
 | k + 1 => by
  obtain ⟨ih0,ih1,ih2,ih3⟩:=spec_PutUp.mono_l k
  refine ⟨?_,?_,?_,?_⟩
  ·intro y0 y1 y2 y3
   unfold spec_PutUp.l0
   repeat' first
   | (with_reducible exact ih0 _ _ _ _)
   | (with_reducible exact ih1 _ _ _ _ _)
   | (with_reducible exact ih2 _ _ _ _ _ _)
   | (with_reducible exact ih3 _ _ _ _ _)
   | (with_reducible exact spec_AreCrew.mono _ _)
   | (with_reducible exact spec_AreTents.mono _ _)
   | (with_reducible exact spec_l23Copy.mono _ _)
   | (with_reducible exact LeO.refl _)
   | (with_reducible exact LeO.none _)
   | (with_reducible refine LeO.ite ?_ ?_)
   | (with_reducible refine LeO.bind ?_ (fun _ => ?_))
   | exact ih0 _ _ _ _
   | exact ih1 _ _ _ _ _
   | exact ih2 _ _ _ _ _ _
   | exact ih3 _ _ _ _ _
   | exact spec_AreCrew.mono _ _
   | exact spec_AreTents.mono _ _
   | exact spec_l23Copy.mono _ _
   | exact LeO.none _
   | refine LeO.ite ?_ ?_
   | refine LeO.bind ?_ (fun _ => ?_)
  ·intro y0 y1 y2 y3 y4
   unfold spec_PutUp.l1
   repeat' first
   | (with_reducible exact ih0 _ _ _ _)
   | (with_reducible exact ih1 _ _ _ _ _)
   | (with_reducible exact ih2 _ _ _ _ _ _)
   | (with_reducible exact ih3 _ _ _ _ _)
   | (with_reducible exact spec_AreCrew.mono _ _)
   | (with_reducible exact spec_AreTents.mono _ _)
   | (with_reducible exact spec_l23Copy.mono _ _)
   | (with_reducible exact LeO.refl _)
   | (with_reducible exact LeO.none _)
   | (with_reducible refine LeO.ite ?_ ?_)
   | (with_reducible refine LeO.bind ?_ (fun _ => ?_))
   | exact ih0 _ _ _ _
   | exact ih1 _ _ _ _ _
   | exact ih2 _ _ _ _ _ _
   | exact ih3 _ _ _ _ _
   | exact spec_AreCrew.mono _ _
   | exact spec_AreTents.mono _ _
   | exact spec_l23Copy.mono _ _
   | exact LeO.none _
   | refine LeO.ite ?_ ?_
   | refine LeO.bind ?_ (fun _ => ?_)
  ·intro y0 y1 y2 y3 y4 y5
   unfold spec_PutUp.j2
   repeat' first
   | (with_reducible exact ih0 _ _ _ _)
   | (with_reducible exact ih1 _ _ _ _ _)
   | (with_reducible exact ih2 _ _ _ _ _ _)
   | (with_reducible exact ih3 _ _ _ _ _)
   | (with_reducible exact spec_AreCrew.mono _ _)
   | (with_reducible exact spec_AreTents.mono _ _)
   | (with_reducible exact spec_l23Copy.mono _ _)
   | (with_reducible exact LeO.refl _)
   | (with_reducible exact LeO.none _)
   | (with_reducible refine LeO.ite ?_ ?_)
   | (with_reducible refine LeO.bind ?_ (fun _ => ?_))
   | exact ih0 _ _ _ _
   | exact ih1 _ _ _ _ _
   | exact ih2 _ _ _ _ _ _
   | exact ih3 _ _ _ _ _
   | exact spec_AreCrew.mono _ _
   | exact spec_AreTents.mono _ _
   | exact spec_l23Copy.mono _ _
   | exact LeO.none _
   | refine LeO.ite ?_ ?_
   | refine LeO.bind ?_ (fun _ => ?_)
  ·intro y0 y1 y2 y3 y4
   unfold spec_PutUp.l2
   repeat' first
   | (with_reducible exact ih0 _ _ _ _)
   | (with_reducible exact ih1 _ _ _ _ _)
   | (with_reducible exact ih2 _ _ _ _ _ _)
   | (with_reducible exact ih3 _ _ _ _ _)
   | (with_reducible exact spec_AreCrew.mono _ _)
   | (with_reducible exact spec_AreTents.mono _ _)
   | (with_reducible exact spec_l23Copy.mono _ _)
   | (with_reducible exact LeO.refl _)
   | (with_reducible exact LeO.none _)
   | (with_reducible refine LeO.ite ?_ ?_)
   | (with_reducible refine LeO.bind ?_ (fun _ => ?_))
   | exact ih0 _ _ _ _
   | exact ih1 _ _ _ _ _
   | exact ih2 _ _ _ _ _ _
   | exact ih3 _ _ _ _ _
   | exact spec_AreCrew.mono _ _
   | exact spec_AreTents.mono _ _
   | exact spec_l23Copy.mono _ _
   | exact LeO.none _
   | refine LeO.ite ?_ ?_
   | refine LeO.bind ?_ (fun _ => ?_)
theorem spec_PutUp.mono : ∀ a0 a1 k, LeO (spec_PutUp.f k a0 a1) (spec_PutUp.f (k + 1) a0 a1) := by
 intro a0 a1 k
 obtain ⟨ih0,ih1,ih2,ih3⟩:=spec_PutUp.mono_l k
 unfold spec_PutUp.f
 repeat' first
   | (with_reducible exact ih0 _ _ _ _)
   | (with_reducible exact ih1 _ _ _ _ _)
   | (with_reducible exact ih2 _ _ _ _ _ _)
   | (with_reducible exact ih3 _ _ _ _ _)
   | (with_reducible exact spec_AreCrew.mono _ _)
   | (with_reducible exact spec_AreTents.mono _ _)
   | (with_reducible exact spec_l23Copy.mono _ _)
   | (with_reducible exact LeO.refl _)
   | (with_reducible exact LeO.none _)
   | (with_reducible refine LeO.ite ?_ ?_)
   | (with_reducible refine LeO.bind ?_ (fun _ => ?_))
   | exact ih0 _ _ _ _
   | exact ih1 _ _ _ _ _
   | exact ih2 _ _ _ _ _ _
   | exact ih3 _ _ _ _ _
   | exact spec_AreCrew.mono _ _
   | exact spec_AreTents.mono _ _
   | exact spec_l23Copy.mono _ _
   | exact LeO.none _
   | refine LeO.ite ?_ ?_
   | refine LeO.bind ?_ (fun _ => ?_)
def spec_PutUp.T10 : Bool × List (List Nat × List Nat) := (true, [([], []), ([], []), ([0, 1], [0, 1]), ([2], [2]), ([3], [3]), ([4], [4]), ([], []), ([], []), ([6, 7], [6, 7]), ([8], [8]), ([9], [9]), ([5, 10], [5, 10]), ([11], [11]), ([12], [12]), ([12], [12]), ([14, 12], [12, 14]), ([13, 15, 12], [12, 13, 15]), ([12, 16], [12, 16])])
def spec_PutUp.B10 : List Nat := [0, 0, 3, 7, 15, 31, 0, 0, 192, 448, 960, 2047, 4095, 8191, 8191, 24575, 65535, 131071]
theorem spec_PutUp.tab10 : rtab .any (opsOf Try.f14 10) = spec_PutUp.T10 := by kernel_rfl
theorem spec_PutUp.bits10 : waitsOk spec_PutUp.T10.2 spec_PutUp.B10 = true := by kernel_rfl
def spec_PutUp.T11 : Bool × List (List Nat × List Nat) := (true, [([], []), ([], []), ([], []), ([], []), ([2, 3], [2, 3]), ([4], [4]), ([5], [5]), ([], []), ([], []), ([7, 8], [7, 8]), ([9], [9]), ([10], [10]), ([11], [11]), ([6, 12], [6, 12]), ([0, 1, 0, 1, 2, 3, 4, 5, 6, 7, 8, 9, 10, 11, 12, 13], [0, 1]), ([14, 0, 1, 2, 3, 4, 5, 6, 7, 8, 9, 10, 11, 12, 13], [14]), ([15, 13, 13, 0, 1, 2, 3, 4, 5, 6, 7, 8, 9, 10, 11, 12, 13], [13, 15])])
def spec_PutUp.B11 : List Nat := [0, 0, 0, 0, 12, 28, 60, 0, 0, 384, 896, 1920, 3968, 8188, 16383, 32767, 65535]
theorem spec_PutUp.tab11 : rtab .any (opsOf Try.f14 11) = spec_PutUp.T11 := by kernel_rfl
theorem spec_PutUp.bits11 : waitsOk spec_PutUp.T11.2 spec_PutUp.B11 = true := by kernel_rfl
set_option maxHeartbeats 8000000 in
set_option maxRecDepth 100000 in
theorem spec_PutUp.calls (k : Nat) (A0 : Option Addr) (c0 : Nat) (l0 : List (S45)) (A1 : Option Addr) (c1 : Nat) (l1 : List (S49)) (r1 : List (S45)) (r2 : Bool) (w : World) (hr0 : Kd.C k45 w A0 l0.length l0) (hc0 : l0.length ≤ c0) (hr1 : Kd.C k49 w A1 l1.length l1) (hc1 : l1.length ≤ c1) (h : spec_PutUp.f k l0 l1 = some (r1, r2)) :
  Calls Try.prog 14 #[.slice A0 l0.length c0,.slice A1 l1.length c1] w fun e w' => ∃ v0_ : Value,e = .returned (.tuple #[v0_,.bool r2]) ∧ Kd.S k45 45 w' w.heap.size (fun _ => True) v0_ r1 ∧ Below w.heap.size w w':=by
 have HR0:=am hr0;have HC0:=am hc0;clear hr0 hc0;have HR1:=am hr1;have HC1:=am hc1;clear hr1 hc1;have HB:=am qq130;have H : ((spec_l23Copy.f k l0).bind fun t185 => (spec_PutUp.l0 k l0 l1 t185 0)) = some (r1,r2):=h;clear h;replace H:=bS.mp H;obtain ⟨t185,A30,H⟩:=H;replace H : (spec_PutUp.l0 k l0 l1 t185 0) = some (r1,r2):=H;have A3:=am A30;clear A30;have H':=am H;clear H
 go_enter Try.func14,Try.ntmps14
 go_wp2_with (first | ((with_reducible refine gate_callee (f:=26) rfl ?_);refine goesL_ (some 11) rfl rfl Try.func26 (by kernel_rfl) rfl #[.slice A0 l0.length c0] rfl qq60 ?_;(with_reducible refine (spec_l23Copy.calls k _ _ l0 t185 _ ?side1 ?side2 A3.out).mono ?_);(case side1 => exact qq61);(case side2 => exact HC0.out);rintro e w4 ⟨v186,rfl,ho0,hb⟩;refine ⟨_,rfl,?_⟩;have HO187:=am (Kd.S_lower ho0 (below_size qq71));replace HB:=am qq133;(try clear hb);(try clear hb2);(try clear hk);(try clear hi);(try clear ho0)))
 go_loopg [7] k (fun kq v7 w' => ∃ (x6_1 : List (S45)) (x7_1 : Int),v7 = .int .i64 x7_1 ∧ Aside0 (spec_PutUp.l0 kq l0 l1 x6_1 x7_1 = some (r1,r2)) ∧ Aside0 (kq ≤ k) ∧ Aside0 (Kd.S k45 45 w' w.heap.size (fun _ => True) v186 x6_1) ∧ Aside0 (Below w.heap.size w w'))
 case atStart => exact ⟨(t185),(0),qq101,H',⟨Nat.le_refl _⟩,⟨by (with_reducible repeat (first | apply Kd.S_alloc | apply Kd.S_drewN | apply Kd.S_drew));exact HO187.out⟩,⟨qq71⟩⟩
 case round =>
  clear H'
  try clear c1
  try clear c2
  try clear p2
  obtain ⟨x6_1,x7_1,rfl,HA,HK1,HO_6,HB⟩:=hrel
  cases gk with
  | zero => exact absurd HA.out (by simp [spec_PutUp.l0])
  | succ k1 =>
   have H:=HA.out;clear HA;simp only [spec_PutUp.l0] at H
   by_cases c5 : x7_1 < (x6_1.length : Int)
   ·rw [if_pos c5] at H;have c5b0 : decide (x7_1 < (x6_1.length : Int)) = true:=decide_eq_true c5;clear c5;obtain ⟨y188,hy188⟩ : ∃ y_ : List Int,y_ = (([] : List Int)):=⟨_,rfl⟩
    replace H : (if 0 ≤ x7_1 then (spec_PutUp.l0 k1 l0 l1 (x6_1.set (x7_1 : Int).toNat (⟨(rd_T45 x6_1 x7_1).f0,(rd_T45 x6_1 x7_1).f1,y188⟩ : S45)) (wrap64 (x7_1 + 1))) else (none)) = some (r1,r2):=by first | (rw [hy188];with_reducible exact H) | (have H2_:=(Option.bind_some _ _).symm.trans H;rw [hy188];with_reducible exact H2_) | (have H2_:=(Option.bind_some _ _).symm.trans H;with_reducible exact H2_) | with_reducible exact H | (rw [hy188];exact H) | exact H
    have Ny188:=am hy188;clear hy188
    by_cases c6 : 0 ≤ x7_1
    ·rw [if_pos c6] at H;have c6b0 : decide (0 ≤ x7_1) = true:=decide_eq_true c6;clear c6;obtain ⟨y191,hy191⟩ : ∃ y_ : List (S45),y_ = (x6_1.set (x7_1 : Int).toNat (⟨(rd_T45 x6_1 x7_1).f0,(rd_T45 x6_1 x7_1).f1,y188⟩ : S45)):=⟨_,rfl⟩
     replace H : (spec_PutUp.l0 k1 l0 l1 y191 (wrap64 (x7_1 + 1))) = some (r1,r2):=by first | (rw [hy191];with_reducible exact H) | (have H2_:=(Option.bind_some _ _).symm.trans H;rw [hy191];with_reducible exact H2_) | (have H2_:=(Option.bind_some _ _).symm.trans H;with_reducible exact H2_) | with_reducible exact H | (rw [hy191];exact H) | exact H
     have Ny191:=am hy191;clear hy191;have H':=am H;clear H;obtain ⟨Ao8,co8,eo8⟩:=Kd.S_slice HO_6.out;subst eo8;go_wp2_with (first | ((with_reducible refine gate_dst (N:=20) rfl ?_);(try (refine gate_guard (by rfl) ?_;dsimp only));refine Kd.R_lit (Kd.int .i64) _ 3 ?hg (N:=20) ?hd (xs:=([] : List Int)) (inner:=[]) (ok:=fun _ => True) (okp:=fun _ => True) ?hr ?hp (fun _ hk => hk) trivial (Below.refl _ _) (Nat.le_refl _) (by simp) ?_;(case hd => rfl);(case hg => rfl);(case hr => exact qq103);(case hp => exact qq107);intro v189 w9 ho10 hb hg_ hnew_;clear hg_ hnew_;(first | rw [← Ny188.out] at ho10 | (simp only [Int.reduceToNat] at ho10;rw [← Ny188.out] at ho10));replace HO_6:=am (Kd.S_elder' qq72 (Kd.R_base ho10) hb);have HO190:=am (Kd.R_lower ho10 (below_size qq71));replace HB:=am qq133;clear hb ho10;have p7 : 0 ≤ (x7_1 : Int):=odt qq100;have q7 : (x7_1 : Int) < ((x6_1.length : Int) : Int):=odt qq100;obtain ⟨go7,co7,eo7,gb7,gl7,cl7,HG7⟩:=Kd.S_form HO_6.out (by omega);(first | cases eo7 | (injection eo7 with ea_ en_ ec_;(first | subst ea_ | (injection ea_ with ea_;subst ea_));subst ec_;clear en_));have GB7:=am gb7;have GG7:=am HG7;clear gb7 gl7 HG7;obtain ⟨_,ce7,hcl7,hM7,hcc7,hfr7,_,_⟩:=Kd.S_elem HO_6.out z45 (x7_1 : Int) p7 q7;obtain ⟨ve7_2,rfl,ge7_2⟩:=k45_openM hM7;have hx7_0 : w9.cell? ⟨go7,(x7_1 : Int).toNat * 3,none⟩ = some (.int .i64 ((rd_T45 x6_1 x7_1).f0)):=hcc7 0 _ rfl;have hx7_1 : w9.cell? ⟨go7,(x7_1 : Int).toNat * 3 + 1,none⟩ = some (.int .i64 ((rd_T45 x6_1 x7_1).f1)):=hcc7 1 _ rfl;have hx7_2 : w9.cell? ⟨go7,(x7_1 : Int).toNat * 3 + 2,none⟩ = some (ve7_2):=hcc7 2 _ rfl;have hf7_0 : w9.frozen? ⟨go7,(x7_1 : Int).toNat * 3,none⟩ = false:=hfr7 0;have hf7_1 : w9.frozen? ⟨go7,(x7_1 : Int).toNat * 3 + 1,none⟩ = false:=hfr7 1;have hf7_2 : w9.frozen? ⟨go7,(x7_1 : Int).toNat * 3 + 2,none⟩ = false:=hfr7 2;clear hcl7 hcc7 hfr7;(try clear hM7);replace p7:=eq_true p7;replace q7:=eq_true q7;have n_:=am (Kd.S_mono (ok':=(fun k_ => some k_ ≠ (v189 : Value).ownBlock)) HO_6.out (fun k_ hk => hk.2));clear HO_6;have HO_6:=n_;clear n_;have HX11:=am (show Kd.S k45 45 w9 w.heap.size (fun k_ => ((fun _ => True)) k_ ∧ ¬ ((fun k_ => some k_ = (v189 : Value).ownBlock)) k_) (.slice (some ⟨go7,0,none⟩) x6_1.length co8) x6_1 from qq37);obtain ⟨oki11,ce11,hcl11,hM11,hcc11,hfr11,hoki11,hH11⟩:=Kd.S_elem HX11.out z45 (x7_1 : Int) (odt qq100) qq18;obtain ⟨ve11_2,rfl,ge11_2⟩:=k45_openM hM11;have HP11:=Kd.S_seg hH11 (odt qq100) qq18 (seg:=[v189]) (j:=2) (show 3 ≤ 3 from by decide) (x':=(⟨(rd_T45 x6_1 x7_1).f0,(rd_T45 x6_1 x7_1).f1,y188⟩ : S45)) (k45_mkM _ _ _ (⟨(rd_T45 x6_1 x7_1).f0,(rd_T45 x6_1 x7_1).f1,y188⟩ : S45) (Kd.R_mono (Kd.R_tight rfl (Kd.R_mono (ok':=fun k_ => ((fun _ => True)) k_ ∧ k_ ≠ go7) (Kd.R_apart' (HO190.out) (Kd.S_typed HO_6.out) (by decide)) (fun k_ hk => ⟨trivial,fun e_ => (hk.2) (by rw [e_];rfl)⟩))) (fun _ h_ => Or.inr (h_)))) (fun _ hk => hk) (fun k_ hk_ => ((Kd.R_mono (ok':=fun k_ => ((fun _ => True)) k_ ∧ k_ ≠ go7) (Kd.R_apart' (HO190.out) (Kd.S_typed HO_6.out) (by decide)) (fun k_ hk => ⟨trivial,fun e_ => (hk.2) (by rw [e_];rfl)⟩))).1 k_ hk_.symm);have hx11_2:=hcc11 2 _ rfl;(try simp only [show (k45).sz = 3 from rfl,Nat.mul_one,Nat.add_zero] at hx11_2);have hf11_2:=hfr11 2;(try simp only [show (k45).sz = 3 from rfl,Nat.mul_one,Nat.add_zero] at hf11_2);clear hcl11 hcc11 hfr11 hM11 hoki11 hH11) | ((with_reducible refine gate_store (t:=43) (p:=22) rfl ?_);refine store_event (t:=43) (p:=22) (v:=?vo_w12) (w1:=(w9.setCell ⟨go7,(x7_1 : Int).toNat * 3 + 2,none⟩ (v189))) ?hg ?ho ?hn ?hr ?_;(case ho => rfl);(case hg => rfl);(case hn => rfl);(case hr => first | (go_simp;done) | (go_simp;rfl) | (obtain ⟨A_,c_,e_⟩:=Kd.R_slice HO190.out;subst e_;first | (go_simp;done) | (go_simp;rfl)));intro w12 hw;have hg : w9.grownBy w12 (some go7):=(by rw [hw];exact HP11.2);have hp_ : Kd.S k45 45 w12 w.heap.size (fun _ => True) (.slice (some ⟨go7,0,none⟩) x6_1.length co8) y191:=(by rw [hw,Ny191.out];exact HP11.1);clear HP11;replace HO_6:=am (hp_);replace HB:=am ((by rw [hw];exact below_set (HB.out) GB7.out : Below w.heap.size w w12));clear HO190;clear hg hw hp_))
     go_roundg k1
     case measure => have:=HK1.out;omega
     case rel => exact ⟨(y191),(wrap64 (x7_1 + 1)),qq101,H',⟨qq108⟩,⟨qq72⟩,⟨qq71⟩⟩
    ·rw [if_neg c6] at H;exact absurd H (by simp)
   ·rw [if_neg c5] at H;have c5b0 : decide (x7_1 < (x6_1.length : Int)) = false:=decide_eq_false c5;clear c5;have H':=am H;clear H;obtain ⟨Ao13,co13,eo13⟩:=Kd.S_slice HO_6.out;subst eo13;go_wp2
    go_loopg [8,9] k1 (fun kq v8 v9 w' => ∃ (x6_2 : List (S45)) (x8_2 : Int) (x9_2 : Int),v8 = .int .i64 x8_2 ∧ v9 = .int .i64 x9_2 ∧ Aside0 (spec_PutUp.l1 kq l0 l1 x6_2 x8_2 x9_2 = some (r1,r2)) ∧ Aside0 (kq ≤ k1) ∧ Aside0 (Kd.S k45 45 w' w.heap.size (fun _ => True) (.slice Ao13 x6_1.length co13) x6_2) ∧ Aside0 (Below w.heap.size w w'))
    case atStart => exact ⟨(x6_1),(0),(0),qq101,qq101,H',⟨Nat.le_refl _⟩,⟨qq72⟩,⟨qq71⟩⟩
    case round =>
     clear H'
     try clear c1
     try clear hx1
     try clear c2
     try clear p2
     try clear c5
     try clear c5b0
     try clear c6
     try clear c6b0
     try clear p6
     try clear c7
     try clear p7
     try clear q7
     try clear hx7
     try clear hf7
     try clear c11
     try clear hx11
     try clear hf11
     try clear hx11_2
     try clear hx7_0
     try clear hx7_1
     try clear hx7_2
     try clear p2
     try clear p7
     try clear q7
     obtain ⟨x6_2,x8_2,x9_2,rfl,rfl,HA,HK2,HO_6,HB⟩:=hrel;have hl6_2:=(Kd.S_reads' HO_6.out).1;rw [hl6_2] at HO_6;(try simp only [hl6_2])
     cases gk with
     | zero => exact absurd HA.out (by simp [spec_PutUp.l1])
     | succ k2 =>
      have H:=HA.out;clear HA;simp only [spec_PutUp.l1] at H;have HC14:=am H;clear H
      go_upto_region 8 with (fail)
      go_cut [34] (fun v34 wc => ∃ (kq : Nat) (x34_13 : Bool),v34 = .bool x34_13 ∧ Aside0 (spec_PutUp.j2 kq l0 l1 x6_2 x8_2 x9_2 x34_13 = some (r1,r2)) ∧ Aside0 (kq ≤ k2) ∧ Aside0 (Kd.S k45 45 wc w.heap.size (fun _ => True) (.slice Ao13 x6_2.length co13) x6_2) ∧ Aside0 (Below w.heap.size w wc))
      case first =>
       have H:=HC14.out;clear HC14
       by_cases c15 : x9_2 < (x6_2.length : Int)
       ·rw [if_pos c15] at H;have c15b0 : decide (x9_2 < (x6_2.length : Int)) = true:=decide_eq_true c15;clear c15;(first | rw [c15b0] | (simp only [i64_w,i32_w];rw [c15b0]) | skip);replace H:=bS.mp H;obtain ⟨t192,A160,H⟩:=H;replace H : (if t192 = true then ((spec_AreCrew.f k2 l1).bind fun t193 => (spec_PutUp.j2 k2 l0 l1 x6_2 x8_2 x9_2 t193)) else (spec_PutUp.j2 k2 l0 l1 x6_2 x8_2 x9_2 false)) = some (r1,r2):=H;have A16:=am A160;clear A160
        by_cases c17 : t192 = true
        ·subst c17;have H1 : ((spec_AreCrew.f k2 l1).bind fun t193 => (spec_PutUp.j2 k2 l0 l1 x6_2 x8_2 x9_2 t193)) = some (r1,r2):=by rw [if_pos rfl] at H;exact H
         clear H;have H:=H1;clear H1;replace H:=bS.mp H;obtain ⟨t193,A180,H⟩:=H;replace H : (spec_PutUp.j2 k2 l0 l1 x6_2 x8_2 x9_2 t193) = some (r1,r2):=H;have A18:=am A180;clear A180;have H':=am H;clear H;go_wp2_with (first | (go_at_call 28;(with_reducible refine (spec_AreTents.calls k2 _ _ l0 true _ ?side1 ?side2 A16.out).mono ?_);(case side1 => exact qq41);(case side2 => exact HC0.out);rintro e w19 ⟨rfl,hb⟩;replace HO_6:=am qq136;replace HB:=am qq133;(try clear hb);(try clear hb2);(try clear hk);(try clear hi)) | (go_at_call 35;(with_reducible refine (spec_AreCrew.calls k2 _ _ l1 t193 _ ?side1 ?side2 A18.out).mono ?_);(case side1 => exact qq40);(case side2 => exact HC1.out);rintro e w20 ⟨rfl,hb⟩;replace HO_6:=am qq136;replace HB:=am qq133;(try clear hb);(try clear hb2);(try clear hk);(try clear hi)))
         go_meet
         case rel => exact ⟨_,(t193),qq101,H',⟨qq95⟩,⟨qq67⟩,⟨qq71⟩⟩
        ·replace c17:=Bool.eq_false_iff.mpr c17;subst c17;have H1 : (spec_PutUp.j2 k2 l0 l1 x6_2 x8_2 x9_2 false) = some (r1,r2):=by rw [if_neg (show ¬ (false = true) by decide)] at H;exact H
         clear H;have H:=H1;clear H1;have H':=am H;clear H;go_wp2_with (first | (go_at_call 28;(with_reducible refine (spec_AreTents.calls k2 _ _ l0 false _ ?side1 ?side2 A16.out).mono ?_);(case side1 => exact qq41);(case side2 => exact HC0.out);rintro e w21 ⟨rfl,hb⟩;replace HO_6:=am qq136;replace HB:=am qq133;(try clear hb);(try clear hb2);(try clear hk);(try clear hi)))
         go_meet
         case rel => exact ⟨_,(false),qq101,H',⟨qq95⟩,⟨qq67⟩,⟨qq71⟩⟩
       ·rw [if_neg c15] at H;have c15b0 : decide (x9_2 < (x6_2.length : Int)) = false:=decide_eq_false c15;clear c15;(first | rw [c15b0] | (simp only [i64_w,i32_w];rw [c15b0]) | skip);have H':=am H;clear H;go_wp2
        go_meet
        case rel => exact ⟨_,(false),qq101,H',⟨qq95⟩,⟨qq67⟩,⟨qq71⟩⟩
      case rest =>
       clear HC14
       try clear c1
       try clear hx1
       try clear c2
       try clear p2
       try clear c5
       try clear c5b0
       try clear c6
       try clear c6b0
       try clear p6
       try clear c7
       try clear p7
       try clear q7
       try clear hx7
       try clear hf7
       try clear c11
       try clear hx11
       try clear hf11
       try clear c14
       try clear c15
       try clear c15b0
       try clear c17
       try clear hx11_2
       try clear hx7_0
       try clear hx7_1
       try clear hx7_2
       try clear p2
       try clear p6
       try clear p7
       try clear q7
       obtain ⟨kq,x34_13,rfl,HA,HJ13,HO_6,HB⟩:=hcut
       cases kq with
       | zero => exact absurd HA.out (by simp [spec_PutUp.j2])
       | succ kj13 =>
        have H:=HA.out;clear HA;simp only [spec_PutUp.j2] at H
        by_cases c22 : x34_13 = true
        ·subst c22;have H1 : (spec_PutUp.l2 kj13 l0 l1 x6_2 x8_2 x9_2) = some (r1,r2):=by rw [if_pos rfl] at H;exact H
         clear H;have H:=H1;clear H1;have H':=am H;clear H;go_wp2
         go_loopg [8] kj13 (fun kq v8 w' => ∃ (x6_4 : List (S45)) (x8_4 : Int),v8 = .int .i64 x8_4 ∧ Aside0 (spec_PutUp.l2 kq l0 l1 x6_4 x8_4 x9_2 = some (r1,r2)) ∧ Aside0 (kq ≤ kj13) ∧ Aside0 (Kd.S k45 45 w' w.heap.size (fun _ => True) (.slice Ao13 x6_2.length co13) x6_4) ∧ Aside0 (Below w.heap.size w w'))
         case atStart => exact ⟨(x6_2),(x8_2),qq101,H',⟨Nat.le_refl _⟩,⟨qq67⟩,⟨qq71⟩⟩
         case round =>
          clear H'
          try clear c1
          try clear hx1
          try clear c2
          try clear p2
          try clear c5
          try clear c5b0
          try clear c6
          try clear c6b0
          try clear p6
          try clear c7
          try clear p7
          try clear q7
          try clear hx7
          try clear hf7
          try clear c11
          try clear hx11
          try clear hf11
          try clear c14
          try clear c15
          try clear c15b0
          try clear c17
          try clear c22
          try clear hx11_2
          try clear hx7_0
          try clear hx7_1
          try clear hx7_2
          try clear p2
          try clear p6
          try clear p7
          try clear q7
          obtain ⟨x6_4,x8_4,rfl,HA,HK4,HO_6,HB⟩:=hrel;have hl6_4:=(Kd.S_reads' HO_6.out).1;rw [hl6_4] at HO_6;(try simp only [hl6_4])
          cases gk with
          | zero => exact absurd HA.out (by simp [spec_PutUp.l2])
          | succ k4 =>
           have H:=HA.out;clear HA;simp only [spec_PutUp.l2] at H
           by_cases c23 : 0 ≤ x9_2
           ·rw [if_pos c23] at H;have c23b0 : decide (0 ≤ x9_2) = true:=decide_eq_true c23;clear c23
            by_cases c24 : x9_2 < (x6_4.length : Int)
            ·rw [if_pos c24] at H;have c24b0 : decide (x9_2 < (x6_4.length : Int)) = true:=decide_eq_true c24;clear c24
             by_cases c25 : (((rd_T45 x6_4 x9_2).f2).length : Int) < ((rd_T45 x6_4 x9_2).f1)
             ·rw [if_pos c25] at H;have c25b0 : decide ((((rd_T45 x6_4 x9_2).f2).length : Int) < ((rd_T45 x6_4 x9_2).f1)) = true:=decide_eq_true c25;clear c25
              by_cases c26 : x8_4 < (l1.length : Int)
              ·rw [if_pos c26] at H;have c26b0 : decide (x8_4 < (l1.length : Int)) = true:=decide_eq_true c26;clear c26
               by_cases c27 : 0 ≤ x8_4
               ·rw [if_pos c27] at H;have c27b0 : decide (0 ≤ x8_4) = true:=decide_eq_true c27;clear c27
                by_cases c28 : ((rd_T45 x6_4 x9_2).f2).length < 17592186044416
                ·rw [if_pos c28] at H;have LMc28:=am c28;clear c28;obtain ⟨y198,hy198⟩ : ∃ y_ : List Int,y_ = (((rd_T45 x6_4 x9_2).f2) ++ [(rd_T49 l1 x8_4).f0]):=⟨_,rfl⟩
                 replace H : (spec_PutUp.l2 k4 l0 l1 (x6_4.set (x9_2 : Int).toNat (⟨(rd_T45 x6_4 x9_2).f0,(rd_T45 x6_4 x9_2).f1,y198⟩ : S45)) (wrap64 (x8_4 + 1)) x9_2) = some (r1,r2):=by first | (rw [hy198];with_reducible exact H) | (have H2_:=(Option.bind_some _ _).symm.trans H;rw [hy198];with_reducible exact H2_) | (have H2_:=(Option.bind_some _ _).symm.trans H;with_reducible exact H2_) | with_reducible exact H | (rw [hy198];exact H) | exact H
                 have Ny198:=am hy198;clear hy198;obtain ⟨y201,hy201⟩ : ∃ y_ : List (S45),y_ = (x6_4.set (x9_2 : Int).toNat (⟨(rd_T45 x6_4 x9_2).f0,(rd_T45 x6_4 x9_2).f1,y198⟩ : S45)):=⟨_,rfl⟩
                 replace H : (spec_PutUp.l2 k4 l0 l1 y201 (wrap64 (x8_4 + 1)) x9_2) = some (r1,r2):=by first | (rw [hy201];with_reducible exact H) | (have H2_:=(Option.bind_some _ _).symm.trans H;rw [hy201];with_reducible exact H2_) | (have H2_:=(Option.bind_some _ _).symm.trans H;with_reducible exact H2_) | with_reducible exact H | (rw [hy201];exact H) | exact H
                 have Ny201:=am hy201;clear hy201;have H':=am H;clear H
                 try go_wp2
                 replace HO_6:=am qq137;replace HB:=am qq134;have p194 : 0 ≤ (x9_2 : Int):=odt qq100;have q194 : x9_2 < (x6_4.length : Int):=odt qq100;obtain ⟨ad194,A194_2,c194_2,e194,hx194_0,hx194_1,hx194_2,hl194_2,hi194_2⟩:=at_T45 (Kd.S_reads' HO_6.out).2.2 x9_2 p194 q194
                 cases e194
                 obtain ⟨ce194,hce194,hMe194,hcc194⟩:=Kd.S_get HO_6.out z45 x9_2 p194 qq65;obtain ⟨ve194_2,rfl,ge194_2⟩:=k45_openM hMe194;have hv194_2:=hcc194 2 _ rfl;rw [add_field _ _ 2 (by omega)] at hv194_2;replace hv194_2:=Option.some.inj (hv194_2.symm.trans hx194_2);rw [hv194_2] at ge194_2;have HL194_2:=am qq117;clear hv194_2 ge194_2;have HX194_2:=am hx194_2;clear hcc194 hce194;have HR194_2:=am hi194_2;have HC194_2:=am hl194_2;clear hi194_2 hl194_2;replace p194:=eq_true p194;replace q194:=eq_true q194;have p195 : 0 ≤ (x9_2 : Int):=odt qq100;have q195 : x9_2 < (x6_4.length : Int):=odt qq100;obtain ⟨ad195,A195_2,c195_2,e195,hx195_0,hx195_1,hx195_2,hl195_2,hi195_2⟩:=at_T45 (Kd.S_reads' HO_6.out).2.2 x9_2 p195 q195;obtain rfl : ad194 = ad195:=(by injection e195)
                 obtain ⟨ce195,hce195,hMe195,hcc195⟩:=Kd.S_get HO_6.out z45 x9_2 p195 qq64;obtain ⟨ve195_2,rfl,ge195_2⟩:=k45_openM hMe195;have hv195_2:=hcc195 2 _ rfl;rw [add_field _ _ 2 (by omega)] at hv195_2;replace hv195_2:=Option.some.inj (hv195_2.symm.trans hx195_2);rw [hv195_2] at ge195_2;have HL195_2:=am qq118;clear hv195_2 ge195_2;have HX195_2:=am hx195_2;clear hcc195 hce195;have HR195_2:=am hi195_2;have HC195_2:=am hl195_2;clear hi195_2 hl195_2;replace p195:=eq_true p195;replace q195:=eq_true q195;have ea_:=Option.some.inj (hx194_2.symm.trans hx195_2)
                 injection ea_ with ea_ en_ ec_
                 subst ea_;subst ec_;clear en_;refine start_ (n:=18) (S:=fun w' => w'.cell? (ad194.add ((x9_2).toNat * 3)) = some (.int .i64 ((rd_T45 x6_4 x9_2).f0)) ∧ w'.cell? ⟨(ad194.add ((x9_2).toNat * 3)).block,(ad194.add ((x9_2).toNat * 3)).off + 1,none⟩ = some (.int .i64 ((rd_T45 x6_4 x9_2).f1)) ∧ w'.cell? ⟨(ad194.add ((x9_2).toNat * 3)).block,(ad194.add ((x9_2).toNat * 3)).off + 2,none⟩ = some (.slice A194_2 ((rd_T45 x6_4 x9_2).f2).length c194_2) ∧ w'.cell? (ad194.add ((x9_2).toNat * 3)) = some (.int .i64 ((rd_T45 x6_4 x9_2).f0)) ∧ w'.cell? ⟨(ad194.add ((x9_2).toNat * 3)).block,(ad194.add ((x9_2).toNat * 3)).off + 1,none⟩ = some (.int .i64 ((rd_T45 x6_4 x9_2).f1)) ∧ w'.cell? ⟨(ad194.add ((x9_2).toNat * 3)).block,(ad194.add ((x9_2).toNat * 3)).off + 2,none⟩ = some (.slice A194_2 ((rd_T45 x6_4 x9_2).f2).length c194_2)) (ds:=[]) m0_6 (by kernel_rfl) rfl rfl ⟨hx194_0,hx194_1,hx194_2,hx195_0,hx195_1,hx195_2⟩ (fun hHeld => ?_);refine with_tabW spec_PutUp.tab10 spec_PutUp.bits10 (fun HT_ HW_ => ?_)
                 generalize wr.drew = w30 at HO_6 HB HL194_2 HL195_2 HR194_2 HR195_2 HX194_2 HX195_2 hx194_0 hx194_1 hx194_2 hx195_0 hx195_1 hx195_2 hHeld ⊢
                 refine pV (i:=0) (N:=some 37) m1_6 rfl rfl qT ?_
                 refine pV (i:=1) (N:=some 38) m2_6 rfl rfl qT ?_
                 refine pV (i:=2) (N:=some 39) m3_6 rfl rfl qT ?_
                 refine pV (i:=3) (N:=some 40) m4_6 rfl rfl qT ?_
                 refine pV (i:=6) (N:=some 43) m5_6 rfl rfl qT ?_
                 refine pV (i:=7) (N:=some 44) m6_6 rfl rfl qT ?_
                 refine pV (i:=8) (N:=some 45) m7_6 rfl rfl qT ?_
                 refine pV (i:=9) (N:=some 46) m8_6 rfl rfl qT ?_
                 refine tV6 (i:=4) (N:=some 41) m9_6 rfl rfl (take_ofW HT_.out HW_.out (by kernel_rfl)) hHeld ?_
                 refine pV (i:=5) (N:=some 42) m10_6 rfl rfl qT ?_
                 refine tV6 (i:=10) (N:=some 47) m11_6 rfl rfl (take_ofW HT_.out HW_.out (by kernel_rfl)) hHeld ?_
                 refine pV (i:=11) (N:=some 48) m12_6 rfl rfl qT ?_
                 refine pV (i:=12) (N:=some 49) m13_6 rfl rfl qT ?_
                 refine pV (i:=13) (N:=some 50) m14_6 rfl rfl qT ?_
                 refine pV (i:=14) (N:=some 51) m15_6 rfl rfl qT ?_
                 refine pV (i:=15) (N:=some 52) m16_6 rfl rfl qT ?_
                 refine pV (i:=16) (N:=some 53) m17_6 rfl rfl qT ?_
                 refine pV (i:=17) (N:=some 54) m18_6 rfl rfl qT ?_
                 refine done_ (done_of HT_.out (by kernel_rfl)) ?_
                 try go_wp2
                 replace HO_6:=am qq137;replace HL194_2:=am (Kd.R_drew HL194_2.out);replace HL195_2:=am (Kd.R_drew HL195_2.out);replace HR194_2:=am (Kd.C_drew HR194_2.out);replace HR195_2:=am (Kd.C_drew HR195_2.out);replace HB:=am qq134;have p196 : 0 ≤ (x9_2 : Int):=odt qq100;have q196 : x9_2 < (x6_4.length : Int):=odt qq100;obtain ⟨ad196,A196_2,c196_2,e196,hx196_0,hx196_1,hx196_2,hl196_2,hi196_2⟩:=at_T45 (Kd.S_reads' HO_6.out).2.2 x9_2 p196 q196;obtain rfl : ad194 = ad196:=(by injection e196)
                 obtain ⟨ce196,hce196,hMe196,hcc196⟩:=Kd.S_get HO_6.out z45 x9_2 p196 (by first | exact q196 | exact odt qq100 | (have e_:=(Kd.S_reads' HO_6.out).1;omega));obtain ⟨ve196_2,rfl,ge196_2⟩:=k45_openM hMe196;have hv196_2:=hcc196 2 _ rfl;rw [add_field _ _ 2 (by omega)] at hv196_2;replace hv196_2:=Option.some.inj (hv196_2.symm.trans hx196_2);rw [hv196_2] at ge196_2;have HL196_2:=am (show Kd.R (Kd.int .i64) 3 _ _ _ _ ((rd_T45 x6_4 x9_2).f2) from ge196_2);clear hv196_2 ge196_2;have HX196_2:=am hx196_2;clear hcc196 hce196;have HR196_2:=am hi196_2;have HC196_2:=am hl196_2;clear hi196_2 hl196_2;replace p196:=eq_true p196;replace q196:=eq_true q196;have p197 : 0 ≤ (x8_4 : Int):=odt qq100;have q197 : x8_4 < (l1.length : Int):=odt qq100;obtain ⟨ad197,e197,hx197_0,hx197_1,hx197_2,hx197_3⟩:=at_T49 HR1.out x8_4 p197 q197;have hw197_3:=hx197_3;have hw197_2:=hx197_2;have hw197_1:=hx197_1;have hw197_0:=hx197_0
                 cases e197
                 replace hx197_0:=(ct HB.out hx197_0 :)
                 replace hx197_1:=(ct HB.out hx197_1 :)
                 replace hx197_2:=(ct HB.out hx197_2 :)
                 replace hx197_3:=(ct HB.out hx197_3 :)
                 replace p197:=eq_true p197;replace q197:=eq_true q197;obtain ⟨go32,co32,eo32,gb32,gl32,cl32,HG32⟩:=Kd.S_form HO_6.out (by have h_ : (x9_2 : Int) < ((x6_4.length : Int) : Int):=odt qq100;have h2_ : 0 ≤ (x9_2 : Int):=(odt qq100);omega);(first | cases eo32 | (injection eo32 with ea_ en_ ec_;(first | subst ea_ | (injection ea_ with ea_;subst ea_));subst ec_;clear en_));have GB32:=am gb32;have GG32:=am HG32;clear gb32 gl32 HG32;(first | simp only [add_plain] at hx194_0 | skip);(first | simp only [add_plain] at hx194_1 | skip);(first | simp only [add_plain] at hx194_2 | skip);(first | simp only [add_plain] at hx195_0 | skip);(first | simp only [add_plain] at hx195_1 | skip);(first | simp only [add_plain] at hx195_2 | skip);(first | simp only [add_plain] at hx196_0 | skip);(first | simp only [add_plain] at hx196_1 | skip);(first | simp only [add_plain] at hx196_2 | skip);obtain ⟨oki32,ce32,hcl32,hM32,hcc32,_,_,hH32⟩:=Kd.S_elem HO_6.out z45 (x9_2 : Int) (odt qq100) (by have h_ : (x9_2 : Int) < ((x6_4.length : Int) : Int):=odt qq100;first | exact h_ | (have e_:=(Kd.S_reads' HO_6.out).1;omega) | simpa using h_);obtain ⟨ve32_2,rfl,ge32_2⟩:=k45_openM hM32;have hv32:=hcc32 2 _ rfl;have hX32:=HX196_2.out;(try simp only [add_plain] at hX32);(try simp only [Nat.add_zero] at hv32);replace hv32:=Option.some.inj (hv32.symm.trans hX32);subst hv32;clear hX32 hcc32 hcl32;have UU32:=am (show Kd.R (Kd.int .i64) 3 _ w.heap.size oki32 (.slice A196_2 ((rd_T45 x6_4 x9_2).f2).length c196_2) ((rd_T45 x6_4 x9_2).f2) from ge32_2);have HH32:=am hH32;have HN32:=am (Kd.S_reads' HO_6.out).1;clear hH32 ge32_2;refine start_ (n:=17) (S:=fun w' => w'.cell? ⟨go32,((x9_2).toNat * 3),none⟩ = some (.int .i64 ((rd_T45 x6_4 x9_2).f0)) ∧ w'.cell? ⟨go32,((x9_2).toNat * 3) + 1,none⟩ = some (.int .i64 ((rd_T45 x6_4 x9_2).f1)) ∧ w'.cell? ⟨go32,((x9_2).toNat * 3) + 2,none⟩ = some (.slice A196_2 ((rd_T45 x6_4 x9_2).f2).length c196_2) ∧ w'.cell? (ad197.add ((x8_4).toNat * 4)) = some (.int .i64 ((rd_T49 l1 x8_4).f0)) ∧ w'.cell? ⟨(ad197.add ((x8_4).toNat * 4)).block,(ad197.add ((x8_4).toNat * 4)).off + 1,none⟩ = some (.int .i64 ((rd_T49 l1 x8_4).f1)) ∧ w'.cell? ⟨(ad197.add ((x8_4).toNat * 4)).block,(ad197.add ((x8_4).toNat * 4)).off + 2,none⟩ = some (.int .i64 ((rd_T49 l1 x8_4).f2)) ∧ w'.cell? ⟨(ad197.add ((x8_4).toNat * 4)).block,(ad197.add ((x8_4).toNat * 4)).off + 3,none⟩ = some (.bool ((rd_T49 l1 x8_4).f3))) (ds:=[16]) #[Z,Z,Z,Z,Z,Z,Z,Z,Z,Z,Z,Z,Z,Z,Z,Z,Z] (by kernel_rfl) rfl rfl ⟨hx196_0,hx196_1,hx196_2,(ct HB.out hw197_0 :),(ct HB.out hw197_1 :),(ct HB.out hw197_2 :),(ct HB.out hw197_3 :)⟩ (fun hHeld => ?_);refine with_tabW spec_PutUp.tab11 spec_PutUp.bits11 (fun HT_ HW_ => ?_)
                 generalize w30.drew = w31 at HO_6 HL194_2 HL195_2 HR194_2 HR195_2 HB GG32 HH32 HL196_2 HR196_2 HX196_2 UU32 hx194_0 hx194_1 hx194_2 hx195_0 hx195_1 hx195_2 hx196_0 hx196_1 hx196_2 hx197_0 hx197_1 hx197_2 hx197_3 hHeld ⊢
                 refine pV (i:=0) (N:=some 55) #[Y,Z,Z,Z,Z,Z,Z,Z,Z,Z,Z,Z,Z,Z,Z,Z,Z] rfl rfl qT ?_
                 refine pV (i:=1) (N:=some 56) #[Y,Y,Z,Z,Z,Z,Z,Z,Z,Z,Z,Z,Z,Z,Z,Z,Z] rfl rfl qT ?_
                 refine pV (i:=2) (N:=some 57) #[Y,Y,Y,Z,Z,Z,Z,Z,Z,Z,Z,Z,Z,Z,Z,Z,Z] rfl rfl qT ?_
                 refine pV (i:=3) (N:=some 58) #[Y,Y,Y,Y,Z,Z,Z,Z,Z,Z,Z,Z,Z,Z,Z,Z,Z] rfl rfl qT ?_
                 refine pV (i:=4) (N:=some 59) #[Y,Y,Y,Y,Y,Z,Z,Z,Z,Z,Z,Z,Z,Z,Z,Z,Z] rfl rfl qT ?_
                 refine pV (i:=5) (N:=some 60) #[Y,Y,Y,Y,Y,Y,Z,Z,Z,Z,Z,Z,Z,Z,Z,Z,Z] rfl rfl qT ?_
                 refine pV (i:=7) (N:=some 62) #[Y,Y,Y,Y,Y,Y,Z,Y,Z,Z,Z,Z,Z,Z,Z,Z,Z] rfl rfl qT ?_
                 refine pV (i:=8) (N:=some 63) #[Y,Y,Y,Y,Y,Y,Z,Y,Y,Z,Z,Z,Z,Z,Z,Z,Z] rfl rfl qT ?_
                 refine pV (i:=9) (N:=some 64) #[Y,Y,Y,Y,Y,Y,Z,Y,Y,Y,Z,Z,Z,Z,Z,Z,Z] rfl rfl qT ?_
                 refine pV (i:=10) (N:=some 65) #[Y,Y,Y,Y,Y,Y,Z,Y,Y,Y,Y,Z,Z,Z,Z,Z,Z] rfl rfl qT ?_
                 refine tV7 (i:=6) (N:=some 61) #[Y,Y,Y,Y,Y,Y,Y,Y,Y,Y,Y,Z,Z,Z,Z,Z,Z] rfl rfl (take_ofW HT_.out HW_.out (by kernel_rfl)) hHeld ?_
                 refine tV7 (i:=11) (N:=some 66) #[Y,Y,Y,Y,Y,Y,Y,Y,Y,Y,Y,Y,Z,Z,Z,Z,Z] rfl rfl (take_ofW HT_.out HW_.out (by kernel_rfl)) hHeld ?_
                 refine one_ (i:=12) (N:=some 67) #[Y,Y,Y,Y,Y,Y,Y,Y,Y,Y,Y,Y,Y,Z,Z,Z,Z] rfl rfl (one_of HT_.out (by kernel_rfl)) (by decide) (fun K hK => ?_);refine value_ (w1:=?_) (v:=?_) (by rfl) rfl ?_ ?_;rotate_left 2
                 ·go_simp
                  constructor
                  ·rfl
                  ·rfl
                 refine hK.out _ _ ⟨(World.cell?_alloc_lt _ _ _ (bl _ _ (hHeld.1))).trans (hHeld.1),(World.cell?_alloc_lt _ _ _ (bl _ _ (hHeld.2.1))).trans (hHeld.2.1),(World.cell?_alloc_lt _ _ _ (bl _ _ (hHeld.2.2.1))).trans (hHeld.2.2.1),(World.cell?_alloc_lt _ _ _ (bl _ _ ((ct HB.out hw197_0 :)))).trans ((ct HB.out hw197_0 :)),(World.cell?_alloc_lt _ _ _ (bl _ _ ((ct HB.out hw197_1 :)))).trans ((ct HB.out hw197_1 :)),(World.cell?_alloc_lt _ _ _ (bl _ _ ((ct HB.out hw197_2 :)))).trans ((ct HB.out hw197_2 :)),(World.cell?_alloc_lt _ _ _ (bl _ _ ((ct HB.out hw197_3 :)))).trans ((ct HB.out hw197_3 :))⟩ (fun hHeld => ?_);clear hK K;refine norm_ (a':=?_) ?_ ?_;rotate_left
                 ·show Act.put _ (some 67) _ = _
                  simp only [Act.put,sA,s0,s1,i64_w,i32_w];rfl
                 refine one_ (i:=13) (N:=some 68) #[Y,Y,Y,Y,Y,Y,Y,Y,Y,Y,Y,Y,Y,Y,Z,Z,Z] rfl rfl (one_of HT_.out (by kernel_rfl)) (by decide) (fun K hK => ?_);refine Kd.R_append_step (Kd.int .i64) (w0:=w) w.heap.size (by rfl) (.tmp 61) (.tmp 67) 43 3 (.int .i64 0) 8 rfl Try.underlying43 info3 rfl (by decide) (by omega) (.slice A196_2 ((rd_T45 x6_4 x9_2).f2).length c196_2) ((rd_T45 x6_4 x9_2).f2) ((rd_T49 l1 x8_4).f0) [.int .i64 ((rd_T49 l1 x8_4).f0)] (fun k_ => oki32 k_ ∨ ((fun _ => True)) k_ ∧ w31.heap.size ≤ k_) (fun _ => False) rfl rfl ?aP (fun _ hk => hk.elim) ?aF ?aO ?aB ?aS ?aL ?_;(case aP => exact rfl);(case aB => exact qq69);(case aF => exact (fun k_ hk => .inr ⟨trivial,hk⟩));(case aO => exact (by (with_reducible repeat (first | apply kA | apply kN | apply kD));exact Kd.R_mono UU32.out (fun _ hk => .inl hk)));(case aS => exact qq66);(case aL => have:=LMc28.out;omega);intro v199 w33 ho hb hg hat;(first | have HS0_:=cell_grown hg (hHeld.1) qq5 | have HS0_:=cell_grown hg (cell_unalloc (hHeld.1) qq33) qq5);(first | have HS1_:=cell_grown hg (hHeld.2.1) qq5 | have HS1_:=cell_grown hg (cell_unalloc (hHeld.2.1) qq33) qq5);(first | have HS2_:=cell_grown hg (hHeld.2.2.1) qq5 | have HS2_:=cell_grown hg (cell_unalloc (hHeld.2.2.1) qq33) qq5);rw [← Ny198.out] at ho;replace HB:=am (hb);replace HH32:=am (Kd.H_grown (Kd.H_widen (by repeat (first | exact HH32.out | refine Kd.H_alloc ?_ _ | refine Kd.H_drewN ?_ _ | refine Kd.H_drew ?_))) hg (fun k_ e_ => .inl (UU32.out.1 k_ e_)));have HO200:=am (ho);clear HO_6 UU32 HL194_2 HL195_2 HL196_2;clear ho hb hg hat;have p29 : 0 ≤ (x9_2 : Int):=odt qq100;have q29 : (x9_2 : Int) < ((x6_4.length : Int) : Int):=odt qq100;replace p29:=eq_true p29;replace q29:=eq_true q29;obtain ⟨Ao36,co36,eo36⟩:=Kd.R_slice HO200.out;(first | subst eo36 | (injection eo36 with f1_ f2_ f3_;have f4_:=f1_.symm;have f5_:=f3_.symm;clear f1_ f2_ f3_;subst f4_;subst f5_));obtain ⟨_,_,hraw34,_,_,hcc34,_⟩:=Kd.H_raw HH32.out (odt qq100) qq23;obtain ⟨_,hfr34⟩:=Kd.H_at HH32.out (odt qq100) qq23;have hx34_0:=hcc34 2 _ rfl;have hf34_0:=hfr34 2;(try rw [show (k45).sz = 3 from rfl] at hx34_0);(try rw [show (k45).sz = 3 from rfl] at hf34_0);have HP34:=Kd.S_seg0 HH32.out (odt qq100) qq23 (seg:=[.slice Ao36 y198.length co36]) (j:=2) (show 3 ≤ 3 from by decide) (x':=(⟨(rd_T45 x6_4 x9_2).f0,(rd_T45 x6_4 x9_2).f1,y198⟩ : S45)) (k45_mkM _ _ _ (⟨(rd_T45 x6_4 x9_2).f0,(rd_T45 x6_4 x9_2).f1,y198⟩ : S45) HO200.out) (fun _ hk => hk);clear hcc34 hfr34;have HS34:=HP34.1;rw [← Ny201.out] at HS34;have HQ34:=am HS34;obtain ⟨_,hgg34⟩:=Kd.R_typed hraw34 go32 rfl;have GG34_:=am hgg34;clear HP34 HS34 hgg34;refine hK.out _ _ ⟨HS0_,HS1_,HS2_,(ct HB.out hw197_0 :),(ct HB.out hw197_1 :),(ct HB.out hw197_2 :),(ct HB.out hw197_3 :)⟩ (fun hHeld => ?_);clear hK K;refine norm_ (a':=?_) ?_ ?_;rotate_left
                 ·show Act.put _ (some 68) _ = _
                  simp only [Act.put,sA,s0,s1,i64_w,i32_w];rfl
                 refine pV (i:=14) (N:=some 69) #[Y,Y,Y,Y,Y,Y,Y,Y,Y,Y,Y,Y,Y,Y,Y,Z,Z] rfl rfl qT ?_
                 refine pV (i:=15) (N:=some 70) #[Y,Y,Y,Y,Y,Y,Y,Y,Y,Y,Y,Y,Y,Y,Y,Y,Z] rfl rfl qT ?_
                 refine last_ (i:=16) (N:=none) #[Y,Y,Y,Y,Y,Y,Y,Y,Y,Y,Y,Y,Y,Y,Y,Y,Y] rfl rfl (one_of HT_.out (by kernel_rfl)) (by decide) (fun K hK => ?_);refine skip_ (w1:=?_) (by rfl) rfl ?_ ?_;rotate_left
                 ·go_simp;rfl
                 refine hK.out _ _ ?_;clear hK K;refine done_ (done_of HT_.out (by kernel_rfl)) ?_
                 try go_wp2
                 (try simp only [← hl6_4])
                 go_roundg k4
                 case measure => have:=HK1.out;have:=HK2.out;have:=HJ13.out;have:=HK4.out;omega
                 case rel => exact ⟨(y201),(wrap64 (x8_4 + 1)),qq101,H',⟨qq96⟩,⟨by (try simp only [hl6_2]);(try simp only [hl6_4]);(with_reducible repeat (first | apply Kd.S_alloc | apply Kd.S_drewN | apply Kd.S_drew));exact HQ34.out⟩,⟨by repeat (first | (with_reducible first | exact HB.out | apply bA | apply bN | apply bD | refine below_set ?_ GB32.out) | exact HB.out)⟩⟩
                ·rw [if_neg c28] at H;exact absurd H (by simp)
               ·rw [if_neg c27] at H;exact absurd H (by simp)
              ·rw [if_neg c26] at H;have c26b0 : decide (x8_4 < (l1.length : Int)) = false:=decide_eq_false c26;clear c26;have H':=am H;clear H
               try go_wp2
               replace HO_6:=am qq137;replace HB:=am qq134;have p194 : 0 ≤ (x9_2 : Int):=odt qq100;have q194 : x9_2 < (x6_4.length : Int):=odt qq100;obtain ⟨ad194,A194_2,c194_2,e194,hx194_0,hx194_1,hx194_2,hl194_2,hi194_2⟩:=at_T45 (Kd.S_reads' HO_6.out).2.2 x9_2 p194 q194
               cases e194
               obtain ⟨ce194,hce194,hMe194,hcc194⟩:=Kd.S_get HO_6.out z45 x9_2 p194 qq65;obtain ⟨ve194_2,rfl,ge194_2⟩:=k45_openM hMe194;have hv194_2:=hcc194 2 _ rfl;rw [add_field _ _ 2 (by omega)] at hv194_2;replace hv194_2:=Option.some.inj (hv194_2.symm.trans hx194_2);rw [hv194_2] at ge194_2;have HL194_2:=am qq117;clear hv194_2 ge194_2;have HX194_2:=am hx194_2;clear hcc194 hce194;have HR194_2:=am hi194_2;have HC194_2:=am hl194_2;clear hi194_2 hl194_2;replace p194:=eq_true p194;replace q194:=eq_true q194;have p195 : 0 ≤ (x9_2 : Int):=odt qq100;have q195 : x9_2 < (x6_4.length : Int):=odt qq100;obtain ⟨ad195,A195_2,c195_2,e195,hx195_0,hx195_1,hx195_2,hl195_2,hi195_2⟩:=at_T45 (Kd.S_reads' HO_6.out).2.2 x9_2 p195 q195;obtain rfl : ad194 = ad195:=(by injection e195)
               obtain ⟨ce195,hce195,hMe195,hcc195⟩:=Kd.S_get HO_6.out z45 x9_2 p195 qq64;obtain ⟨ve195_2,rfl,ge195_2⟩:=k45_openM hMe195;have hv195_2:=hcc195 2 _ rfl;rw [add_field _ _ 2 (by omega)] at hv195_2;replace hv195_2:=Option.some.inj (hv195_2.symm.trans hx195_2);rw [hv195_2] at ge195_2;have HL195_2:=am qq118;clear hv195_2 ge195_2;have HX195_2:=am hx195_2;clear hcc195 hce195;have HR195_2:=am hi195_2;have HC195_2:=am hl195_2;clear hi195_2 hl195_2;replace p195:=eq_true p195;replace q195:=eq_true q195;have ea_:=Option.some.inj (hx194_2.symm.trans hx195_2)
               injection ea_ with ea_ en_ ec_
               subst ea_;subst ec_;clear en_;refine start_ (n:=18) (S:=fun w' => w'.cell? (ad194.add ((x9_2).toNat * 3)) = some (.int .i64 ((rd_T45 x6_4 x9_2).f0)) ∧ w'.cell? ⟨(ad194.add ((x9_2).toNat * 3)).block,(ad194.add ((x9_2).toNat * 3)).off + 1,none⟩ = some (.int .i64 ((rd_T45 x6_4 x9_2).f1)) ∧ w'.cell? ⟨(ad194.add ((x9_2).toNat * 3)).block,(ad194.add ((x9_2).toNat * 3)).off + 2,none⟩ = some (.slice A194_2 ((rd_T45 x6_4 x9_2).f2).length c194_2) ∧ w'.cell? (ad194.add ((x9_2).toNat * 3)) = some (.int .i64 ((rd_T45 x6_4 x9_2).f0)) ∧ w'.cell? ⟨(ad194.add ((x9_2).toNat * 3)).block,(ad194.add ((x9_2).toNat * 3)).off + 1,none⟩ = some (.int .i64 ((rd_T45 x6_4 x9_2).f1)) ∧ w'.cell? ⟨(ad194.add ((x9_2).toNat * 3)).block,(ad194.add ((x9_2).toNat * 3)).off + 2,none⟩ = some (.slice A194_2 ((rd_T45 x6_4 x9_2).f2).length c194_2)) (ds:=[]) m0_6 (by kernel_rfl) rfl rfl ⟨hx194_0,hx194_1,hx194_2,hx195_0,hx195_1,hx195_2⟩ (fun hHeld => ?_);refine with_tabW spec_PutUp.tab10 spec_PutUp.bits10 (fun HT_ HW_ => ?_)
               generalize wr.drew = w37 at HO_6 HB HL194_2 HL195_2 HR194_2 HR195_2 HX194_2 HX195_2 hx194_0 hx194_1 hx194_2 hx195_0 hx195_1 hx195_2 hHeld ⊢
               refine pV (i:=0) (N:=some 37) m1_6 rfl rfl qT ?_
               refine pV (i:=1) (N:=some 38) m2_6 rfl rfl qT ?_
               refine pV (i:=2) (N:=some 39) m3_6 rfl rfl qT ?_
               refine pV (i:=3) (N:=some 40) m4_6 rfl rfl qT ?_
               refine pV (i:=6) (N:=some 43) m5_6 rfl rfl qT ?_
               refine pV (i:=7) (N:=some 44) m6_6 rfl rfl qT ?_
               refine pV (i:=8) (N:=some 45) m7_6 rfl rfl qT ?_
               refine pV (i:=9) (N:=some 46) m8_6 rfl rfl qT ?_
               refine tV6 (i:=4) (N:=some 41) m9_6 rfl rfl (take_ofW HT_.out HW_.out (by kernel_rfl)) hHeld ?_
               refine pV (i:=5) (N:=some 42) m10_6 rfl rfl qT ?_
               refine tV6 (i:=10) (N:=some 47) m11_6 rfl rfl (take_ofW HT_.out HW_.out (by kernel_rfl)) hHeld ?_
               refine pV (i:=11) (N:=some 48) m12_6 rfl rfl qT ?_
               refine pV (i:=12) (N:=some 49) m13_6 rfl rfl qT ?_
               refine pV (i:=13) (N:=some 50) m14_6 rfl rfl qT ?_
               refine pV (i:=14) (N:=some 51) m15_6 rfl rfl qT ?_
               refine pV (i:=15) (N:=some 52) m16_6 rfl rfl qT ?_
               refine pV (i:=16) (N:=some 53) m17_6 rfl rfl qT ?_
               refine pV (i:=17) (N:=some 54) m18_6 rfl rfl qT ?_
               refine done_ (done_of HT_.out (by kernel_rfl)) ?_
               try go_wp2
               (try simp only [← hl6_2,← hl6_4])
               go_roundg k4
               case measure => have:=HK1.out;have:=HK2.out;have:=HJ13.out;have:=HK4.out;omega
               case rel => exact ⟨(x6_4),(x8_4),(wrap64 (x9_2 + 1)),qq101,qq101,H',⟨qq96⟩,⟨qq42⟩,⟨qq71⟩⟩
             ·rw [if_neg c25] at H;have c25b0 : decide ((((rd_T45 x6_4 x9_2).f2).length : Int) < ((rd_T45 x6_4 x9_2).f1)) = false:=decide_eq_false c25;clear c25;have H':=am H;clear H
              try go_wp2
              replace HO_6:=am qq137;replace HB:=am qq134;have p194 : 0 ≤ (x9_2 : Int):=odt qq100;have q194 : x9_2 < (x6_4.length : Int):=odt qq100;obtain ⟨ad194,A194_2,c194_2,e194,hx194_0,hx194_1,hx194_2,hl194_2,hi194_2⟩:=at_T45 (Kd.S_reads' HO_6.out).2.2 x9_2 p194 q194
              cases e194
              obtain ⟨ce194,hce194,hMe194,hcc194⟩:=Kd.S_get HO_6.out z45 x9_2 p194 qq65;obtain ⟨ve194_2,rfl,ge194_2⟩:=k45_openM hMe194;have hv194_2:=hcc194 2 _ rfl;rw [add_field _ _ 2 (by omega)] at hv194_2;replace hv194_2:=Option.some.inj (hv194_2.symm.trans hx194_2);rw [hv194_2] at ge194_2;have HL194_2:=am qq117;clear hv194_2 ge194_2;have HX194_2:=am hx194_2;clear hcc194 hce194;have HR194_2:=am hi194_2;have HC194_2:=am hl194_2;clear hi194_2 hl194_2;replace p194:=eq_true p194;replace q194:=eq_true q194;have p195 : 0 ≤ (x9_2 : Int):=odt qq100;have q195 : x9_2 < (x6_4.length : Int):=odt qq100;obtain ⟨ad195,A195_2,c195_2,e195,hx195_0,hx195_1,hx195_2,hl195_2,hi195_2⟩:=at_T45 (Kd.S_reads' HO_6.out).2.2 x9_2 p195 q195;obtain rfl : ad194 = ad195:=(by injection e195)
              obtain ⟨ce195,hce195,hMe195,hcc195⟩:=Kd.S_get HO_6.out z45 x9_2 p195 qq64;obtain ⟨ve195_2,rfl,ge195_2⟩:=k45_openM hMe195;have hv195_2:=hcc195 2 _ rfl;rw [add_field _ _ 2 (by omega)] at hv195_2;replace hv195_2:=Option.some.inj (hv195_2.symm.trans hx195_2);rw [hv195_2] at ge195_2;have HL195_2:=am qq118;clear hv195_2 ge195_2;have HX195_2:=am hx195_2;clear hcc195 hce195;have HR195_2:=am hi195_2;have HC195_2:=am hl195_2;clear hi195_2 hl195_2;replace p195:=eq_true p195;replace q195:=eq_true q195;have ea_:=Option.some.inj (hx194_2.symm.trans hx195_2)
              injection ea_ with ea_ en_ ec_
              subst ea_;subst ec_;clear en_;refine start_ (n:=18) (S:=fun w' => w'.cell? (ad194.add ((x9_2).toNat * 3)) = some (.int .i64 ((rd_T45 x6_4 x9_2).f0)) ∧ w'.cell? ⟨(ad194.add ((x9_2).toNat * 3)).block,(ad194.add ((x9_2).toNat * 3)).off + 1,none⟩ = some (.int .i64 ((rd_T45 x6_4 x9_2).f1)) ∧ w'.cell? ⟨(ad194.add ((x9_2).toNat * 3)).block,(ad194.add ((x9_2).toNat * 3)).off + 2,none⟩ = some (.slice A194_2 ((rd_T45 x6_4 x9_2).f2).length c194_2) ∧ w'.cell? (ad194.add ((x9_2).toNat * 3)) = some (.int .i64 ((rd_T45 x6_4 x9_2).f0)) ∧ w'.cell? ⟨(ad194.add ((x9_2).toNat * 3)).block,(ad194.add ((x9_2).toNat * 3)).off + 1,none⟩ = some (.int .i64 ((rd_T45 x6_4 x9_2).f1)) ∧ w'.cell? ⟨(ad194.add ((x9_2).toNat * 3)).block,(ad194.add ((x9_2).toNat * 3)).off + 2,none⟩ = some (.slice A194_2 ((rd_T45 x6_4 x9_2).f2).length c194_2)) (ds:=[]) m0_6 (by kernel_rfl) rfl rfl ⟨hx194_0,hx194_1,hx194_2,hx195_0,hx195_1,hx195_2⟩ (fun hHeld => ?_);refine with_tabW spec_PutUp.tab10 spec_PutUp.bits10 (fun HT_ HW_ => ?_)
              generalize wr.drew = w38 at HO_6 HB HL194_2 HL195_2 HR194_2 HR195_2 HX194_2 HX195_2 hx194_0 hx194_1 hx194_2 hx195_0 hx195_1 hx195_2 hHeld ⊢
              refine pV (i:=0) (N:=some 37) m1_6 rfl rfl qT ?_
              refine pV (i:=1) (N:=some 38) m2_6 rfl rfl qT ?_
              refine pV (i:=2) (N:=some 39) m3_6 rfl rfl qT ?_
              refine pV (i:=3) (N:=some 40) m4_6 rfl rfl qT ?_
              refine pV (i:=6) (N:=some 43) m5_6 rfl rfl qT ?_
              refine pV (i:=7) (N:=some 44) m6_6 rfl rfl qT ?_
              refine pV (i:=8) (N:=some 45) m7_6 rfl rfl qT ?_
              refine pV (i:=9) (N:=some 46) m8_6 rfl rfl qT ?_
              refine tV6 (i:=4) (N:=some 41) m9_6 rfl rfl (take_ofW HT_.out HW_.out (by kernel_rfl)) hHeld ?_
              refine pV (i:=5) (N:=some 42) m10_6 rfl rfl qT ?_
              refine tV6 (i:=10) (N:=some 47) m11_6 rfl rfl (take_ofW HT_.out HW_.out (by kernel_rfl)) hHeld ?_
              refine pV (i:=11) (N:=some 48) m12_6 rfl rfl qT ?_
              refine pV (i:=12) (N:=some 49) m13_6 rfl rfl qT ?_
              refine pW (i:=13) (N:=some 50) m14_6 rfl rfl qT ?_
              refine pW (i:=14) (N:=some 51) m15_6 rfl rfl qT ?_
              refine pW (i:=15) (N:=some 52) m16_6 rfl rfl qT ?_
              refine pW (i:=16) (N:=some 53) m17_6 rfl rfl qT ?_
              refine pV (i:=17) (N:=some 54) m18_6 rfl rfl qT ?_
              refine done_ (done_of HT_.out (by kernel_rfl)) ?_
              try go_wp2
              (try simp only [← hl6_2,← hl6_4])
              go_roundg k4
              case measure => have:=HK1.out;have:=HK2.out;have:=HJ13.out;have:=HK4.out;omega
              case rel => exact ⟨(x6_4),(x8_4),(wrap64 (x9_2 + 1)),qq101,qq101,H',⟨qq96⟩,⟨qq42⟩,⟨qq71⟩⟩
            ·rw [if_neg c24] at H;exact absurd H (by simp)
           ·rw [if_neg c23] at H;exact absurd H (by simp)
        ·replace c22:=Bool.eq_false_iff.mpr c22;subst c22;have H1 : (if x8_2 < (l1.length : Int) then ((spec_l23Copy.f kj13 l0).bind fun t202 => (some (t202,false))) else ((spec_AreTents.f kj13 l0).bind fun t205 => (if t205 = true then ((spec_AreCrew.f kj13 l1).bind fun t206 => (if t206 = true then (some (x6_2,true)) else ((spec_l23Copy.f kj13 l0).bind fun t207 => (some (t207,false))))) else ((spec_l23Copy.f kj13 l0).bind fun t210 => (some (t210,false)))))) = some (r1,r2):=by rw [if_neg (show ¬ (false = true) by decide)] at H;exact H
         clear H;have H:=H1;clear H1
         by_cases c39 : x8_2 < (l1.length : Int)
         ·rw [if_pos c39] at H;have c39b0 : decide (x8_2 < (l1.length : Int)) = true:=decide_eq_true c39;clear c39;replace H:=bS.mp H;obtain ⟨t202,A400,H⟩:=H;replace H : (some (t202,false)) = some (r1,r2):=H;have A40:=am A400;clear A400;simp only [Option.some.injEq,Prod.mk.injEq] at H;obtain ⟨rfl,rfl⟩:=H;go_wp2_with (first | ((with_reducible refine gate_callee (f:=26) rfl ?_);refine goesL_ (some 88) rfl rfl Try.func26 (by kernel_rfl) rfl #[.slice A0 l0.length c0] rfl qq60 ?_;(with_reducible refine (spec_l23Copy.calls kj13 _ _ l0 t202 _ ?side1 ?side2 A40.out).mono ?_);(case side1 => exact qq41);(case side2 => exact HC0.out);rintro e w41 ⟨v203,rfl,ho0,hb⟩;refine ⟨_,rfl,?_⟩;have HO204:=am qq119;replace HO_6:=am qq123;replace HB:=am qq133;(try clear hb);(try clear hb2);(try clear hk);(try clear hi);(try clear ho0)))
          go_ret2
          exact ⟨_,qq89,by (with_reducible repeat (first | apply Kd.S_alloc | apply Kd.S_drewN | apply Kd.S_drew));exact Kd.S_mono HO204.out (fun _ hk => trivial),qq71⟩
         ·rw [if_neg c39] at H;have c39b0 : decide (x8_2 < (l1.length : Int)) = false:=decide_eq_false c39;clear c39;replace H:=bS.mp H;obtain ⟨t205,A420,H⟩:=H;replace H : (if t205 = true then ((spec_AreCrew.f kj13 l1).bind fun t206 => (if t206 = true then (some (x6_2,true)) else ((spec_l23Copy.f kj13 l0).bind fun t207 => (some (t207,false))))) else ((spec_l23Copy.f kj13 l0).bind fun t210 => (some (t210,false)))) = some (r1,r2):=H;have A42:=am A420;clear A420
          by_cases c43 : t205 = true
          ·subst c43;have H1 : ((spec_AreCrew.f kj13 l1).bind fun t206 => (if t206 = true then (some (x6_2,true)) else ((spec_l23Copy.f kj13 l0).bind fun t207 => (some (t207,false))))) = some (r1,r2):=by rw [if_pos rfl] at H;exact H
           clear H;have H:=H1;clear H1;replace H:=bS.mp H;obtain ⟨t206,A440,H⟩:=H;replace H : (if t206 = true then (some (x6_2,true)) else ((spec_l23Copy.f kj13 l0).bind fun t207 => (some (t207,false)))) = some (r1,r2):=H;have A44:=am A440;clear A440
           by_cases c45 : t206 = true
           ·subst c45;have H1 : (some (x6_2,true)) = some (r1,r2):=by rw [if_pos rfl] at H;exact H
            clear H;have H:=H1;clear H1;simp only [Option.some.injEq,Prod.mk.injEq] at H;obtain ⟨rfl,rfl⟩:=H;go_wp2_with (first | (go_at_call 28;(with_reducible refine (spec_AreTents.calls kj13 _ _ l0 true _ ?side1 ?side2 A42.out).mono ?_);(case side1 => exact qq41);(case side2 => exact HC0.out);rintro e w46 ⟨rfl,hb⟩;replace HO_6:=am qq136;replace HB:=am qq133;(try clear hb);(try clear hb2);(try clear hk);(try clear hi)) | (go_at_call 35;(with_reducible refine (spec_AreCrew.calls kj13 _ _ l1 true _ ?side1 ?side2 A44.out).mono ?_);(case side1 => exact qq40);(case side2 => exact HC1.out);rintro e w47 ⟨rfl,hb⟩;replace HO_6:=am qq136;replace HB:=am qq133;(try clear hb);(try clear hb2);(try clear hk);(try clear hi)))
            go_ret2
            exact ⟨_,qq89,qq72,qq71⟩
           ·replace c45:=Bool.eq_false_iff.mpr c45;subst c45;have H1 : ((spec_l23Copy.f kj13 l0).bind fun t207 => (some (t207,false))) = some (r1,r2):=by rw [if_neg (show ¬ (false = true) by decide)] at H;exact H
            clear H;have H:=H1;clear H1;replace H:=bS.mp H;obtain ⟨t207,A480,H⟩:=H;replace H : (some (t207,false)) = some (r1,r2):=H;have A48:=am A480;clear A480;simp only [Option.some.injEq,Prod.mk.injEq] at H;obtain ⟨rfl,rfl⟩:=H;go_wp2_with (first | (go_at_call 28;(with_reducible refine (spec_AreTents.calls kj13 _ _ l0 true _ ?side1 ?side2 A42.out).mono ?_);(case side1 => exact qq41);(case side2 => exact HC0.out);rintro e w49 ⟨rfl,hb⟩;replace HO_6:=am qq136;replace HB:=am qq133;(try clear hb);(try clear hb2);(try clear hk);(try clear hi)) | (go_at_call 35;(with_reducible refine (spec_AreCrew.calls kj13 _ _ l1 false _ ?side1 ?side2 A44.out).mono ?_);(case side1 => exact qq40);(case side2 => exact HC1.out);rintro e w50 ⟨rfl,hb⟩;replace HO_6:=am qq136;replace HB:=am qq133;(try clear hb);(try clear hb2);(try clear hk);(try clear hi)) | ((with_reducible refine gate_callee (f:=26) rfl ?_);refine goesL_ (some 88) rfl rfl Try.func26 (by kernel_rfl) rfl #[.slice A0 l0.length c0] rfl qq60 ?_;(with_reducible refine (spec_l23Copy.calls kj13 _ _ l0 t207 _ ?side1 ?side2 A48.out).mono ?_);(case side1 => exact qq41);(case side2 => exact HC0.out);rintro e w51 ⟨v208,rfl,ho0,hb⟩;refine ⟨_,rfl,?_⟩;have HO209:=am qq119;replace HO_6:=am qq123;replace HB:=am qq133;(try clear hb);(try clear hb2);(try clear hk);(try clear hi);(try clear ho0)))
            go_ret2
            exact ⟨_,qq89,by (with_reducible repeat (first | apply Kd.S_alloc | apply Kd.S_drewN | apply Kd.S_drew));exact Kd.S_mono HO209.out (fun _ hk => trivial),qq71⟩
          ·replace c43:=Bool.eq_false_iff.mpr c43;subst c43;have H1 : ((spec_l23Copy.f kj13 l0).bind fun t210 => (some (t210,false))) = some (r1,r2):=by rw [if_neg (show ¬ (false = true) by decide)] at H;exact H
           clear H;have H:=H1;clear H1;replace H:=bS.mp H;obtain ⟨t210,A520,H⟩:=H;replace H : (some (t210,false)) = some (r1,r2):=H;have A52:=am A520;clear A520;simp only [Option.some.injEq,Prod.mk.injEq] at H;obtain ⟨rfl,rfl⟩:=H;go_wp2_with (first | (go_at_call 28;(with_reducible refine (spec_AreTents.calls kj13 _ _ l0 false _ ?side1 ?side2 A42.out).mono ?_);(case side1 => exact qq41);(case side2 => exact HC0.out);rintro e w53 ⟨rfl,hb⟩;replace HO_6:=am qq136;replace HB:=am qq133;(try clear hb);(try clear hb2);(try clear hk);(try clear hi)) | ((with_reducible refine gate_callee (f:=26) rfl ?_);refine goesL_ (some 88) rfl rfl Try.func26 (by kernel_rfl) rfl #[.slice A0 l0.length c0] rfl qq60 ?_;(with_reducible refine (spec_l23Copy.calls kj13 _ _ l0 t210 _ ?side1 ?side2 A52.out).mono ?_);(case side1 => exact qq41);(case side2 => exact HC0.out);rintro e w54 ⟨v211,rfl,ho0,hb⟩;refine ⟨_,rfl,?_⟩;have HO212:=am qq119;replace HO_6:=am qq123;replace HB:=am qq133;(try clear hb);(try clear hb2);(try clear hk);(try clear hi);(try clear ho0)))
           go_ret2
           exact ⟨_,qq89,by (with_reducible repeat (first | apply Kd.S_alloc | apply Kd.S_drewN | apply Kd.S_drew));exact Kd.S_mono HO212.out (fun _ hk => trivial),qq71⟩

end Go.Proofs.Ytnghncedinngoaa.PFnExactPutUp
