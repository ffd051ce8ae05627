/- Contracts of functions that the law FnTents reaches, for its row: lines that the kit's printer wrote for this claim, set shorter by a program of this session (own.py), and what fell in Lean proved anew. Lean checks them. -/
import Derived.Test.YtnghncedinngoaaSFnTentsx0
import Derived.Test.YtnghncedinngoaaSFnTentsx2
import Derived.Test.YtnghncedinngoaaSFnTentsx3
import Derived.Test.YtnghncedinngoaaSFnTentsx5
import Derived.Test.YtnghncedinngoaaSFnTentsx6
namespace Go.Proofs.Ytnghncedinngoaa.PFnTents
open Go.RowKit Go.Proofs.YtnghncedinngoaaW.PrintWords Go.Proofs.YtnghncedinngoaaW.PrintLast Go.Proofs.YtnghncedinngoaaW.PrintMore
attribute [local go_sem] max2_int min2_int max_two min_two max_three min_three max_four min_four   -- for this text's walks alone
set_option linter.unusedVariables false
set_option linter.unusedSimpArgs false

/-! ### impl_PutUp: function 16 -/
mutual
def impl_PutUp.j0 : Nat → List (S45) → List (S49) → List (S45) → Bool → Option ((List (S45)) × Bool)
 | 0,_,_,_,_ => none
 | k + 1,x0,x1,x6,x20 => if x20 = true then (some (x6,false)) else (impl_PutUp.l0 k x0 x1 x6 (x6.length : Int) 0)
def impl_PutUp.l0 : Nat → List (S45) → List (S49) → List (S45) → Int → Int → Option ((List (S45)) × Bool)
 | 0,_,_,_,_,_ => none
 | k + 1,x0,x1,x6,x23,x24 => if x24 < x23 then (if 0 ≤ x24 then (if x24 < (x6.length : Int) then (impl_PutUp.l0 k x0 x1 (x6.set (x24 : Int).toNat (⟨(rd_T45 x6 x24).f0,(rd_T45 x6 x24).f1,(([] : List Int))⟩ : S45)) x23 (wrap64 (x24 + 1))) else (none)) else (none)) else ((impl_BedsFree.f k x6).bind fun t191 => (if t191 < (x1.length : Int) then ((impl_copyTents.f k x0).bind fun t192 => (some (t192,false))) else (impl_PutUp.l1 k x6 x1 (x1.length : Int) 0)))
def impl_PutUp.l1 : Nat → List (S45) → List (S49) → Int → Int → Option ((List (S45)) × Bool)
 | 0,_,_,_,_ => none
 | k + 1,x6,x40,x41,x42 => if x42 < x41 then (if 0 ≤ x42 then (if x42 < (x40.length : Int) then (impl_PutUp.l2 k x6 0 x40 x41 x42 ((rd_T49 x40 x42).f0) ((rd_T49 x40 x42).f1) ((rd_T49 x40 x42).f2) ((rd_T49 x40 x42).f3)) else (none)) else (none)) else (some (x6,true))
def impl_PutUp.l2 : Nat → List (S45) → Int → List (S49) → Int → Int → Int → Int → Int → Bool → Option ((List (S45)) × Bool)
 | 0,_,_,_,_,_,_,_,_,_ => none
 | k + 1,x6,x10,x40,x41,x42,x197000,x197001,x197002,x197003 => if 0 ≤ x10 then (if x10 < (x6.length : Int) then (if (((rd_T45 x6 x10).f2).length : Int) = ((rd_T45 x6 x10).f1) then (impl_PutUp.l2 k x6 (wrap64 (x10 + 1)) x40 x41 x42 x197000 x197001 x197002 x197003) else (if ((rd_T45 x6 x10).f2).length < 17592186044416 then (impl_PutUp.l1 k (x6.set (x10 : Int).toNat (⟨(rd_T45 x6 x10).f0,(rd_T45 x6 x10).f1,(((rd_T45 x6 x10).f2) ++ [x197000])⟩ : S45)) x40 x41 (wrap64 (x42 + 1))) else (none))) else (none)) else (none)
end
def impl_PutUp.f (k : Nat) (l0 : List (S45)) (l1 : List (S49)) : Option ((List (S45)) × Bool) := (impl_copyTents.f k l0).bind fun t182 => ((impl_AreTents.f k l0).bind fun t185 => (if t185 = true then ((impl_AreCrew.f k l1).bind fun t186 => (impl_PutUp.j0 k l0 l1 t182 (!t186))) else (impl_PutUp.j0 k l0 l1 t182 true)))
theorem impl_PutUp.mono_l : ∀ k, (∀ y0 y1 y2 y3, LeO (impl_PutUp.j0 k y0 y1 y2 y3) (impl_PutUp.j0 (k + 1) y0 y1 y2 y3)) ∧ (∀ y0 y1 y2 y3 y4, LeO (impl_PutUp.l0 k y0 y1 y2 y3 y4) (impl_PutUp.l0 (k + 1) y0 y1 y2 y3 y4)) ∧ (∀ y0 y1 y2 y3, LeO (impl_PutUp.l1 k y0 y1 y2 y3) (impl_PutUp.l1 (k + 1) y0 y1 y2 y3)) ∧ (∀ y0 y1 y2 y3 y4 y5 y6 y7 y8, LeO (impl_PutUp.l2 k y0 y1 y2 y3 y4 y5 y6 y7 y8) (impl_PutUp.l2 (k + 1) y0 y1 y2 y3 y4 y5 y6 y7 y8))
 | 0 => ⟨fun _ _ _ _ r h => by simp [impl_PutUp.j0] at h,fun _ _ _ _ _ r h => by simp [impl_PutUp.l0] at h,fun _ _ _ _ r h => by simp [impl_PutUp.l1] at h,fun _ _ _ _ _ _ _ _ _ r h => by simp [impl_PutUp.l2] at h⟩
 | k + 1 => by
  obtain ⟨ih0,ih1,ih2,ih3⟩:=impl_PutUp.mono_l k
  refine ⟨?_,?_,?_,?_⟩
  ·intro y0 y1 y2 y3
   unfold impl_PutUp.j0
   repeat' first
   | (with_reducible exact ih0 _ _ _ _)
   | (with_reducible exact ih1 _ _ _ _ _)
   | (with_reducible exact ih2 _ _ _ _)
   | (with_reducible exact ih3 _ _ _ _ _ _ _ _ _)
   | (with_reducible exact impl_AreCrew.mono _ _)
   | (with_reducible exact impl_AreTents.mono _ _)
   | (with_reducible exact impl_BedsFree.mono _ _)
   | (with_reducible exact impl_copyTents.mono _ _)
   | (with_reducible exact LeO.refl _)
   | (with_reducible exact LeO.none _)
   | (with_reducible refine LeO.ite ?_ ?_)
   | (with_reducible refine LeO.bind ?_ (fun _ => ?_))
   | exact ih0 _ _ _ _
   | exact ih1 _ _ _ _ _
   | exact ih2 _ _ _ _
   | exact ih3 _ _ _ _ _ _ _ _ _
   | exact impl_AreCrew.mono _ _
   | exact impl_AreTents.mono _ _
   | exact impl_BedsFree.mono _ _
   | exact impl_copyTents.mono _ _
   | exact LeO.none _
   | refine LeO.ite ?_ ?_
   | refine LeO.bind ?_ (fun _ => ?_)
  ·intro y0 y1 y2 y3 y4
   unfold impl_PutUp.l0
   repeat' first
   | (with_reducible exact ih0 _ _ _ _)
   | (with_reducible exact ih1 _ _ _ _ _)
   | (with_reducible exact ih2 _ _ _ _)
   | (with_reducible exact ih3 _ _ _ _ _ _ _ _ _)
   | (with_reducible exact impl_AreCrew.mono _ _)
   | (with_reducible exact impl_AreTents.mono _ _)
   | (with_reducible exact impl_BedsFree.mono _ _)
   | (with_reducible exact impl_copyTents.mono _ _)
   | (with_reducible exact LeO.refl _)
   | (with_reducible exact LeO.none _)
   | (with_reducible refine LeO.ite ?_ ?_)
   | (with_reducible refine LeO.bind ?_ (fun _ => ?_))
   | exact ih0 _ _ _ _
   | exact ih1 _ _ _ _ _
   | exact ih2 _ _ _ _
   | exact ih3 _ _ _ _ _ _ _ _ _
   | exact impl_AreCrew.mono _ _
   | exact impl_AreTents.mono _ _
   | exact impl_BedsFree.mono _ _
   | exact impl_copyTents.mono _ _
   | exact LeO.none _
   | refine LeO.ite ?_ ?_
   | refine LeO.bind ?_ (fun _ => ?_)
  ·intro y0 y1 y2 y3
   unfold impl_PutUp.l1
   repeat' first
   | (with_reducible exact ih0 _ _ _ _)
   | (with_reducible exact ih1 _ _ _ _ _)
   | (with_reducible exact ih2 _ _ _ _)
   | (with_reducible exact ih3 _ _ _ _ _ _ _ _ _)
   | (with_reducible exact impl_AreCrew.mono _ _)
   | (with_reducible exact impl_AreTents.mono _ _)
   | (with_reducible exact impl_BedsFree.mono _ _)
   | (with_reducible exact impl_copyTents.mono _ _)
   | (with_reducible exact LeO.refl _)
   | (with_reducible exact LeO.none _)
   | (with_reducible refine LeO.ite ?_ ?_)
   | (with_reducible refine LeO.bind ?_ (fun _ => ?_))
   | exact ih0 _ _ _ _
   | exact ih1 _ _ _ _ _
   | exact ih2 _ _ _ _
   | exact ih3 _ _ _ _ _ _ _ _ _
   | exact impl_AreCrew.mono _ _
   | exact impl_AreTents.mono _ _
   | exact impl_BedsFree.mono _ _
   | exact impl_copyTents.mono _ _
   | exact LeO.none _
   | refine LeO.ite ?_ ?_
   | refine LeO.bind ?_ (fun _ => ?_)
  ·intro y0 y1 y2 y3 y4 y5 y6 y7 y8
   unfold impl_PutUp.l2
   repeat' first
   | (with_reducible exact ih0 _ _ _ _)
   | (with_reducible exact ih1 _ _ _ _ _)
   | (with_reducible exact ih2 _ _ _ _)
   | (with_reducible exact ih3 _ _ _ _ _ _ _ _ _)
   | (with_reducible exact impl_AreCrew.mono _ _)
   | (with_reducible exact impl_AreTents.mono _ _)
   | (with_reducible exact impl_BedsFree.mono _ _)
   | (with_reducible exact impl_copyTents.mono _ _)
   | (with_reducible exact LeO.refl _)
   | (with_reducible exact LeO.none _)
   | (with_reducible refine LeO.ite ?_ ?_)
   | (with_reducible refine LeO.bind ?_ (fun _ => ?_))
   | exact ih0 _ _ _ _
   | exact ih1 _ _ _ _ _
   | exact ih2 _ _ _ _
   | exact ih3 _ _ _ _ _ _ _ _ _
   | exact impl_AreCrew.mono _ _
   | exact impl_AreTents.mono _ _
   | exact impl_BedsFree.mono _ _
   | exact impl_copyTents.mono _ _
   | exact LeO.none _
   | refine LeO.ite ?_ ?_
   | refine LeO.bind ?_ (fun _ => ?_)
theorem impl_PutUp.mono : ∀ a0 a1 k, LeO (impl_PutUp.f k a0 a1) (impl_PutUp.f (k + 1) a0 a1) := by
 intro a0 a1 k
 obtain ⟨ih0,ih1,ih2,ih3⟩:=impl_PutUp.mono_l k
 unfold impl_PutUp.f
 repeat' first
   | (with_reducible exact ih0 _ _ _ _)
   | (with_reducible exact ih1 _ _ _ _ _)
   | (with_reducible exact ih2 _ _ _ _)
   | (with_reducible exact ih3 _ _ _ _ _ _ _ _ _)
   | (with_reducible exact impl_AreCrew.mono _ _)
   | (with_reducible exact impl_AreTents.mono _ _)
   | (with_reducible exact impl_BedsFree.mono _ _)
   | (with_reducible exact impl_copyTents.mono _ _)
   | (with_reducible exact LeO.refl _)
   | (with_reducible exact LeO.none _)
   | (with_reducible refine LeO.ite ?_ ?_)
   | (with_reducible refine LeO.bind ?_ (fun _ => ?_))
   | exact ih0 _ _ _ _
   | exact ih1 _ _ _ _ _
   | exact ih2 _ _ _ _
   | exact ih3 _ _ _ _ _ _ _ _ _
   | exact impl_AreCrew.mono _ _
   | exact impl_AreTents.mono _ _
   | exact impl_BedsFree.mono _ _
   | exact impl_copyTents.mono _ _
   | exact LeO.none _
   | refine LeO.ite ?_ ?_
   | refine LeO.bind ?_ (fun _ => ?_)
def impl_PutUp.T15 : Bool × List (List Nat × List Nat) := (true, [([], []), ([], []), ([0, 1], [0, 1]), ([2], [2]), ([3], [3]), ([4], [4]), ([], []), ([], []), ([6, 7], [6, 7]), ([8], [8]), ([9], [9]), ([5, 10], [5, 10])])
def impl_PutUp.B15 : List Nat := [0, 0, 3, 7, 15, 31, 0, 0, 192, 448, 960, 2047]
theorem impl_PutUp.tab15 : rtab .any (opsOf Try.f16 15) = impl_PutUp.T15 := by kernel_rfl
theorem impl_PutUp.bits15 : waitsOk impl_PutUp.T15.2 impl_PutUp.B15 = true := by kernel_rfl
def impl_PutUp.T17 : Bool × List (List Nat × List Nat) := (true, [([], []), ([], []), ([], []), ([], []), ([2, 3], [2, 3]), ([4], [4]), ([5], [5]), ([], []), ([7], [7]), ([8], [8]), ([6, 9], [6, 9]), ([0, 1, 0, 1, 2, 3, 4, 5, 6, 7, 8, 9, 10], [0, 1]), ([11, 0, 1, 2, 3, 4, 5, 6, 7, 8, 9, 10], [11]), ([12, 10, 10, 0, 1, 2, 3, 4, 5, 6, 7, 8, 9, 10], [10, 12])])
def impl_PutUp.B17 : List Nat := [0, 0, 0, 0, 12, 28, 60, 0, 128, 384, 1020, 2047, 4095, 8191]
theorem impl_PutUp.tab17 : rtab .any (opsOf Try.f16 17) = impl_PutUp.T17 := by kernel_rfl
theorem impl_PutUp.bits17 : waitsOk impl_PutUp.T17.2 impl_PutUp.B17 = true := by kernel_rfl
set_option maxHeartbeats 8000000 in
set_option maxRecDepth 100000 in
theorem impl_PutUp.calls (k : Nat) (A0 : Option Addr) (c0 : Nat) (l0 : List (S45)) (A1 : Option Addr) (c1 : Nat) (l1 : List (S49)) (r1 : List (S45)) (r2 : Bool) (w : World) (hr0 : Kd.C k45 w A0 l0.length l0) (hc0 : l0.length ≤ c0) (hr1 : Kd.C k49 w A1 l1.length l1) (hc1 : l1.length ≤ c1) (h : impl_PutUp.f k l0 l1 = some (r1, r2)) :
  Calls Try.prog 16 #[.slice A0 l0.length c0,.slice A1 l1.length c1] w fun e w' => ∃ v0_ : Value,e = .returned (.tuple #[v0_,.bool r2]) ∧ Kd.S k45 45 w' w.heap.size (fun _ => True) v0_ r1 ∧ Below w.heap.size w w':=by
 have hu49:=Try.underlying49;have HR0:=am hr0;have HC0:=am hc0;clear hr0 hc0;have HR1:=am hr1;have HC1:=am hc1;clear hr1 hc1;have HB:=am qq135;have H : ((impl_copyTents.f k l0).bind fun t182 => ((impl_AreTents.f k l0).bind fun t185 => (if t185 = true then ((impl_AreCrew.f k l1).bind fun t186 => (impl_PutUp.j0 k l0 l1 t182 (!t186))) else (impl_PutUp.j0 k l0 l1 t182 true)))) = some (r1,r2):=h;clear h;replace H:=bS.mp H;obtain ⟨t182,A30,H⟩:=H;replace H : ((impl_AreTents.f k l0).bind fun t185 => (if t185 = true then ((impl_AreCrew.f k l1).bind fun t186 => (impl_PutUp.j0 k l0 l1 t182 (!t186))) else (impl_PutUp.j0 k l0 l1 t182 true))) = some (r1,r2):=H;have A3:=am A30;clear A30;have HC4:=am H;clear H
 go_enter Try.func16,Try.ntmps16
 go_upto_region 2 with (first | ((with_reducible refine gate_callee (f:=30) rfl ?_);refine goesL_ (some 12) rfl rfl Try.func30 (by kernel_rfl) rfl #[.slice A0 l0.length c0] rfl qq50 ?_;(with_reducible refine (impl_copyTents.calls k _ _ l0 t182 _ ?side1 ?side2 A3.out).mono ?_);(case side1 => exact qq51);(case side2 => exact HC0.out);rintro e w5 ⟨v183,rfl,ho0,hb⟩;refine ⟨_,rfl,?_⟩;have HO184:=am qq131;replace HB:=am qq138;(try clear hb);(try clear hb2);(try clear hk);(try clear hi);(try clear ho0)))
 (try simp only [Act.put,sA,s0,s1])
 go_cut [20] (fun v20 wc => ∃ (kq : Nat) (x20_3 : Bool),v20 = .bool x20_3 ∧ Aside0 (impl_PutUp.j0 kq l0 l1 t182 x20_3 = some (r1,r2)) ∧ Aside0 (kq ≤ k) ∧ Aside0 (Kd.S k45 45 wc w.heap.size (fun _ => True) v183 t182) ∧ Aside0 (Below w.heap.size w wc))
 case first =>
  have H:=HC4.out;clear HC4;replace H:=bS.mp H;obtain ⟨t185,A60,H⟩:=H;replace H : (if t185 = true then ((impl_AreCrew.f k l1).bind fun t186 => (impl_PutUp.j0 k l0 l1 t182 (!t186))) else (impl_PutUp.j0 k l0 l1 t182 true)) = some (r1,r2):=H;have A6:=am A60;clear A60
  by_cases c7 : t185 = true
  ·subst c7;have H1 : ((impl_AreCrew.f k l1).bind fun t186 => (impl_PutUp.j0 k l0 l1 t182 (!t186))) = some (r1,r2):=by rw [if_pos rfl] at H;exact H
   clear H;have H:=H1;clear H1;replace H:=bS.mp H;obtain ⟨t186,A80,H⟩:=H;replace H : (impl_PutUp.j0 k l0 l1 t182 (!t186)) = some (r1,r2):=H;have A8:=am A80;clear A80;have H':=am H;clear H;go_wp2_with (first | ((with_reducible refine gate_callee (f:=21) rfl ?_);refine goesL_ (some 14) rfl rfl Try.func21 (by kernel_rfl) rfl #[.slice A0 l0.length c0] rfl qq50 ?_;(with_reducible refine (impl_AreTents.calls k _ _ l0 true _ ?side1 ?side2 A6.out).mono ?_);(case side1 => exact qq29);(case side2 => exact HC0.out);rintro e w9 ⟨rfl,hb⟩;refine ⟨_,rfl,?_⟩;replace HO184:=am (Kd.S_below qq71 hb);replace HB:=am qq138;(try clear hb);(try clear hb2);(try clear hk);(try clear hi)) | (go_at_call 37;(with_reducible refine (impl_AreCrew.calls k _ _ l1 t186 _ ?side1 ?side2 A8.out).mono ?_);(case side1 => exact qq28);(case side2 => exact HC1.out);rintro e w10 ⟨rfl,hb⟩;replace HO184:=am (Kd.S_below qq71 hb);replace HB:=am qq138;(try clear hb);(try clear hb2);(try clear hk);(try clear hi)))
   go_meet
   case rel => exact ⟨_,(!t186),qq95,H',⟨qq98⟩,⟨qq71⟩,⟨qq73⟩⟩
  ·replace c7:=Bool.eq_false_iff.mpr c7;subst c7;have H1 : (impl_PutUp.j0 k l0 l1 t182 true) = some (r1,r2):=by rw [if_neg (show ¬ (false = true) by decide)] at H;exact H
   clear H;have H:=H1;clear H1;have H':=am H;clear H;go_wp2_with (first | ((with_reducible refine gate_callee (f:=21) rfl ?_);refine goesL_ (some 14) rfl rfl Try.func21 (by kernel_rfl) rfl #[.slice A0 l0.length c0] rfl qq50 ?_;(with_reducible refine (impl_AreTents.calls k _ _ l0 false _ ?side1 ?side2 A6.out).mono ?_);(case side1 => exact qq29);(case side2 => exact HC0.out);rintro e w11 ⟨rfl,hb⟩;refine ⟨_,rfl,?_⟩;replace HO184:=am (Kd.S_below qq71 hb);replace HB:=am qq138;(try clear hb);(try clear hb2);(try clear hk);(try clear hi)))
   go_meet
   case rel => exact ⟨_,(true),qq95,H',⟨qq98⟩,⟨qq71⟩,⟨qq73⟩⟩
 case rest =>
  clear HC4
  try clear c1
  try clear c2
  try clear p2
  try clear c3
  try clear c7
  obtain ⟨kq,x20_3,rfl,HA,HJ3,HO_6,HB⟩:=hcut
  cases kq with
  | zero => exact absurd HA.out (by simp [impl_PutUp.j0])
  | succ kj3 =>
   have H:=HA.out;clear HA;simp only [impl_PutUp.j0] at H
   by_cases c12 : x20_3 = true
   ·subst c12;have H1 : (some (t182,false)) = some (r1,r2):=by rw [if_pos rfl] at H;exact H
    clear H;have H:=H1;clear H1;simp only [Option.some.injEq,Prod.mk.injEq] at H;obtain ⟨rfl,rfl⟩:=H;go_wp2
    go_ret2
    exact ⟨_,qq81,qq75,qq73⟩
   ·replace c12:=Bool.eq_false_iff.mpr c12;subst c12;have H1 : (impl_PutUp.l0 kj3 l0 l1 t182 (t182.length : Int) 0) = some (r1,r2):=by rw [if_neg (show ¬ (false = true) by decide)] at H;exact H
    clear H;have H:=H1;clear H1;have H':=am H;clear H;obtain ⟨Ao13,co13,eo13⟩:=Kd.S_slice HO_6.out;subst eo13;go_wp2
    go_loopg [24] kj3 (fun kq v24 w' => ∃ (x6_2 : List (S45)) (x24_2 : Int),v24 = .int .i64 x24_2 ∧ Aside0 (impl_PutUp.l0 kq l0 l1 x6_2 (t182.length : Int) x24_2 = some (r1,r2)) ∧ Aside0 (kq ≤ kj3) ∧ Aside0 (Kd.S k45 45 w' w.heap.size (fun _ => True) (.slice Ao13 t182.length co13) x6_2) ∧ Aside0 (Below w.heap.size w w'))
    case atStart => exact ⟨(t182),(0),qq95,H',⟨Nat.le_refl _⟩,⟨qq75⟩,⟨qq73⟩⟩
    case round =>
     clear H'
     try clear c1
     try clear c2
     try clear p2
     try clear c3
     try clear c7
     try clear c12
     try clear p2
     obtain ⟨x6_2,x24_2,rfl,HA,HK2,HO_6,HB⟩:=hrel;have hl6_2:=(Kd.S_reads' HO_6.out).1;rw [hl6_2] at HO_6;(try simp only [hl6_2])
     cases gk with
     | zero => exact absurd HA.out (by simp [impl_PutUp.l0])
     | succ k2 =>
      have H:=HA.out;clear HA;simp only [impl_PutUp.l0] at H
      by_cases c14 : x24_2 < (t182.length : Int)
      ·rw [if_pos c14] at H;have c14b0 : decide (x24_2 < (t182.length : Int)) = true:=decide_eq_true c14
       try have c14bz : decide (x24_2 < (x6_2.length : Int)) = true:=by rw [← hl6_2];exact c14b0
       clear c14;obtain ⟨y187,hy187⟩ : ∃ y_ : List Int,y_ = (([] : List Int)):=⟨_,rfl⟩
       replace H : (if 0 ≤ x24_2 then (if x24_2 < (x6_2.length : Int) then (impl_PutUp.l0 k2 l0 l1 (x6_2.set (x24_2 : Int).toNat (⟨(rd_T45 x6_2 x24_2).f0,(rd_T45 x6_2 x24_2).f1,y187⟩ : S45)) (t182.length : Int) (wrap64 (x24_2 + 1))) else (none)) else (none)) = some (r1,r2):=by first | (rw [hy187];with_reducible exact H) | (have H2_:=(Option.bind_some _ _).symm.trans H;rw [hy187];with_reducible exact H2_) | (have H2_:=(Option.bind_some _ _).symm.trans H;with_reducible exact H2_) | with_reducible exact H | (rw [hy187];exact H) | exact H
       have Ny187:=am hy187;clear hy187
       by_cases c15 : 0 ≤ x24_2
       ·rw [if_pos c15] at H;have c15b0 : decide (0 ≤ x24_2) = true:=decide_eq_true c15;clear c15
        by_cases c16 : x24_2 < (x6_2.length : Int)
        ·rw [if_pos c16] at H;have c16b0 : decide (x24_2 < (x6_2.length : Int)) = true:=decide_eq_true c16;clear c16;obtain ⟨y190,hy190⟩ : ∃ y_ : List (S45),y_ = (x6_2.set (x24_2 : Int).toNat (⟨(rd_T45 x6_2 x24_2).f0,(rd_T45 x6_2 x24_2).f1,y187⟩ : S45)):=⟨_,rfl⟩
         replace H : (impl_PutUp.l0 k2 l0 l1 y190 (t182.length : Int) (wrap64 (x24_2 + 1))) = some (r1,r2):=by first | (rw [hy190];with_reducible exact H) | (have H2_:=(Option.bind_some _ _).symm.trans H;rw [hy190];with_reducible exact H2_) | (have H2_:=(Option.bind_some _ _).symm.trans H;with_reducible exact H2_) | with_reducible exact H | (rw [hy190];exact H) | exact H
         have Ny190:=am hy190;clear hy190;have H':=am H;clear H;go_wp2_with (first | ((with_reducible refine gate_dst (N:=29) rfl ?_);refine Kd.R_lit (Kd.int .i64) _ 3 ?hg (N:=29) ?hd (xs:=([] : List Int)) (inner:=[]) (ok:=fun _ => True) (okp:=fun _ => True) ?hr ?hp (fun _ hk => hk) trivial (Below.refl _ _) (Nat.le_refl _) (by simp) ?_;(case hd => rfl);(case hg => rfl);(case hr => exact qq96);(case hp => exact qq106);intro v188 w18 ho19 hb hg_ hnew_;clear hg_ hnew_;(first | rw [← Ny187.out] at ho19 | (simp only [Int.reduceToNat] at ho19;rw [← Ny187.out] at ho19));replace HO_6:=am (Kd.S_elder' qq75 (Kd.R_base ho19) hb);have HO189:=am (Kd.R_lower ho19 (below_size qq73));replace HB:=am qq138;clear hb ho19;have p17 : 0 ≤ (x24_2 : Int):=odt qq94;have q17 : (x24_2 : Int) < ((x6_2.length : Int) : Int):=odt qq94;obtain ⟨go17,co17,eo17,gb17,gl17,cl17,HG17⟩:=Kd.S_form HO_6.out (by omega);(first | cases eo17 | (injection eo17 with ea_ en_ ec_;(first | subst ea_ | (injection ea_ with ea_;subst ea_));subst ec_;clear en_));have GB17:=am gb17;have GG17:=am HG17;clear gb17 gl17 HG17;obtain ⟨_,ce17,hcl17,hM17,hcc17,hfr17,_,_⟩:=Kd.S_elem HO_6.out z45 (x24_2 : Int) p17 q17;obtain ⟨ve17_2,rfl,ge17_2⟩:=k45_openM hM17;have hx17_0 : w18.cell? ⟨go17,(x24_2 : Int).toNat * 3,none⟩ = some (.int .i64 ((rd_T45 x6_2 x24_2).f0)):=hcc17 0 _ rfl;have hx17_1 : w18.cell? ⟨go17,(x24_2 : Int).toNat * 3 + 1,none⟩ = some (.int .i64 ((rd_T45 x6_2 x24_2).f1)):=hcc17 1 _ rfl;have hx17_2 : w18.cell? ⟨go17,(x24_2 : Int).toNat * 3 + 2,none⟩ = some (ve17_2):=hcc17 2 _ rfl;have hf17_0 : w18.frozen? ⟨go17,(x24_2 : Int).toNat * 3,none⟩ = false:=hfr17 0;have hf17_1 : w18.frozen? ⟨go17,(x24_2 : Int).toNat * 3 + 1,none⟩ = false:=hfr17 1;have hf17_2 : w18.frozen? ⟨go17,(x24_2 : Int).toNat * 3 + 2,none⟩ = false:=hfr17 2;clear hcl17 hcc17 hfr17;(try clear hM17);replace p17:=eq_true p17;replace q17:=eq_true q17;have n_:=am (Kd.S_mono (ok':=(fun k_ => some k_ ≠ (v188 : Value).ownBlock)) HO_6.out (fun k_ hk => hk.2));clear HO_6;have HO_6:=n_;clear n_;have HX20:=am (show Kd.S k45 45 w18 w.heap.size (fun k_ => ((fun _ => True)) k_ ∧ ¬ ((fun k_ => some k_ = (v188 : Value).ownBlock)) k_) (.slice (some ⟨go17,0,none⟩) x6_2.length co13) x6_2 from qq24);obtain ⟨oki20,ce20,hcl20,hM20,hcc20,hfr20,hoki20,hH20⟩:=Kd.S_elem HX20.out z45 (x24_2 : Int) (odt qq94) qq8;obtain ⟨ve20_2,rfl,ge20_2⟩:=k45_openM hM20;have HP20:=Kd.S_seg hH20 (odt qq94) qq8 (seg:=[v188]) (j:=2) (show 3 ≤ 3 from by decide) (x':=(⟨(rd_T45 x6_2 x24_2).f0,(rd_T45 x6_2 x24_2).f1,y187⟩ : S45)) (k45_mkM _ _ _ (⟨(rd_T45 x6_2 x24_2).f0,(rd_T45 x6_2 x24_2).f1,y187⟩ : S45) (Kd.R_mono (Kd.R_tight rfl (Kd.R_mono (ok':=fun k_ => ((fun _ => True)) k_ ∧ k_ ≠ go17) (Kd.R_apart' (HO189.out) (Kd.S_typed HO_6.out) (by decide)) (fun k_ hk => ⟨trivial,fun e_ => (hk.2) (by rw [e_];rfl)⟩))) (fun _ h_ => Or.inr (h_)))) (fun _ hk => hk) (fun k_ hk_ => ((Kd.R_mono (ok':=fun k_ => ((fun _ => True)) k_ ∧ k_ ≠ go17) (Kd.R_apart' (HO189.out) (Kd.S_typed HO_6.out) (by decide)) (fun k_ hk => ⟨trivial,fun e_ => (hk.2) (by rw [e_];rfl)⟩))).1 k_ hk_.symm);have hx20_2:=hcc20 2 _ rfl;(try simp only [show (k45).sz = 3 from rfl,Nat.mul_one,Nat.add_zero] at hx20_2);have hf20_2:=hfr20 2;(try simp only [show (k45).sz = 3 from rfl,Nat.mul_one,Nat.add_zero] at hf20_2);clear hcl20 hcc20 hfr20 hM20 hoki20 hH20) | ((with_reducible refine gate_store (t:=43) (p:=31) rfl ?_);refine store_event (t:=43) (p:=31) (v:=?vo_w21) (w1:=(w18.setCell ⟨go17,(x24_2 : Int).toNat * 3 + 2,none⟩ (v188))) ?hg ?ho ?hn ?hr ?_;(case ho => rfl);(case hg => rfl);(case hn => rfl);(case hr => first | (go_simp;done) | (go_simp;rfl) | (obtain ⟨A_,c_,e_⟩:=Kd.R_slice HO189.out;subst e_;first | (go_simp;done) | (go_simp;rfl)));intro w21 hw;have hg : w18.grownBy w21 (some go17):=(by rw [hw];exact HP20.2);have hp_ : Kd.S k45 45 w21 w.heap.size (fun _ => True) (.slice (some ⟨go17,0,none⟩) x6_2.length co13) y190:=(by rw [hw,Ny190.out];exact HP20.1);clear HP20;replace HO_6:=am (hp_);replace HB:=am ((by rw [hw];exact below_set (HB.out) GB17.out : Below w.heap.size w w21));clear HO189;clear hg hw hp_))
         (try simp only [← hl6_2])
         go_roundg k2
         case measure => have:=HJ3.out;have:=HK2.out;omega
         case rel => exact ⟨(y190),(wrap64 (x24_2 + 1)),qq95,H',⟨by have:=HJ3.out;have:=HK2.out;omega⟩,⟨qq62⟩,⟨qq73⟩⟩
        ·rw [if_neg c16] at H;exact absurd H (by simp)
       ·rw [if_neg c15] at H;exact absurd H (by simp)
      ·rw [if_neg c14] at H;have c14b0 : decide (x24_2 < (t182.length : Int)) = false:=decide_eq_false c14
       try have c14bz : decide (x24_2 < (x6_2.length : Int)) = false:=by rw [← hl6_2];exact c14b0
       clear c14;replace H:=bS.mp H;obtain ⟨t191,A220,H⟩:=H;replace H : (if t191 < (l1.length : Int) then ((impl_copyTents.f k2 l0).bind fun t192 => (some (t192,false))) else (impl_PutUp.l1 k2 x6_2 l1 (l1.length : Int) 0)) = some (r1,r2):=H;have A22:=am A220;clear A220
       by_cases c23 : t191 < (l1.length : Int)
       ·rw [if_pos c23] at H;have c23b0 : decide (t191 < (l1.length : Int)) = true:=decide_eq_true c23;clear c23;replace H:=bS.mp H;obtain ⟨t192,A240,H⟩:=H;replace H : (some (t192,false)) = some (r1,r2):=H;have A24:=am A240;clear A240;simp only [Option.some.injEq,Prod.mk.injEq] at H;obtain ⟨rfl,rfl⟩:=H;go_wp2_with (first | ((with_reducible refine gate_callee (f:=22) rfl ?_);refine goesL_ (some 34) rfl rfl Try.func22 (by kernel_rfl) rfl #[.slice Ao13 x6_2.length co13] rfl qq50 ?_;(with_reducible refine (impl_BedsFree.calls k2 _ _ x6_2 t191 _ ?side1 ?side2 A22.out).mono ?_);(case side1 => exact qq32);(case side2 => exact (Kd.S_reads' HO_6.out).2.1);rintro e w25 ⟨rfl,hb⟩;refine ⟨_,rfl,?_⟩;replace HO_6:=am qq143;replace HB:=am qq138;(try clear hb);(try clear hb2);(try clear hk);(try clear hi)) | ((with_reducible refine gate_callee (f:=30) rfl ?_);refine goesL_ (some 39) rfl rfl Try.func30 (by kernel_rfl) rfl #[.slice A0 l0.length c0] rfl qq50 ?_;(with_reducible refine (impl_copyTents.calls k2 _ _ l0 t192 _ ?side1 ?side2 A24.out).mono ?_);(case side1 => exact qq29);(case side2 => exact HC0.out);rintro e w26 ⟨v193,rfl,ho0,hb⟩;refine ⟨_,rfl,?_⟩;have HO194:=am qq124;replace HO_6:=am qq128;replace HB:=am qq138;(try clear hb);(try clear hb2);(try clear hk);(try clear hi);(try clear ho0)))
        go_ret2
        exact ⟨_,qq81,by (with_reducible repeat (first | apply Kd.S_alloc | apply Kd.S_drewN | apply Kd.S_drew));exact Kd.S_mono HO194.out (fun _ hk => trivial),qq73⟩
       ·rw [if_neg c23] at H;have c23b0 : decide (t191 < (l1.length : Int)) = false:=decide_eq_false c23;clear c23;have H':=am H;clear H;go_wp2_with (first | ((with_reducible refine gate_callee (f:=22) rfl ?_);refine goesL_ (some 34) rfl rfl Try.func22 (by kernel_rfl) rfl #[.slice Ao13 x6_2.length co13] rfl qq50 ?_;(with_reducible refine (impl_BedsFree.calls k2 _ _ x6_2 t191 _ ?side1 ?side2 A22.out).mono ?_);(case side1 => exact qq32);(case side2 => exact (Kd.S_reads' HO_6.out).2.1);rintro e w27 ⟨rfl,hb⟩;refine ⟨_,rfl,?_⟩;replace HO_6:=am qq143;replace HB:=am qq138;(try clear hb);(try clear hb2);(try clear hk);(try clear hi)))
        go_loopg [42] k2 (fun kq v42 w' => ∃ (x6_3 : List (S45)) (x42_3 : Int),v42 = .int .i64 x42_3 ∧ Aside0 (impl_PutUp.l1 kq x6_3 l1 (l1.length : Int) x42_3 = some (r1,r2)) ∧ Aside0 (kq ≤ k2) ∧ Aside0 (Kd.S k45 45 w' w.heap.size (fun _ => True) (.slice Ao13 x6_2.length co13) x6_3) ∧ Aside0 (Below w.heap.size w w'))
        case atStart => exact ⟨(x6_2),(0),qq95,H',⟨Nat.le_refl _⟩,⟨qq62⟩,⟨qq73⟩⟩
        case round =>
         clear H'
         try clear c1
         try clear p1
         try clear q1
         try clear hx1
         try clear c2
         try clear p2
         try clear hx2
         try clear hf2
         try clear c3
         try clear p6
         try clear c7
         try clear c12
         try clear c14
         try clear c14b0
         try clear c15
         try clear c15b0
         try clear c16
         try clear c16b0
         try clear c17
         try clear p17
         try clear q17
         try clear hx17
         try clear hf17
         try clear c20
         try clear hx20
         try clear hf20
         try clear c21
         try clear c22
         try clear c23
         try clear c23b0
         try clear hx17_0
         try clear hx17_1
         try clear hx17_2
         try clear hx20_2
         try clear p17
         try clear p2
         try clear q17
         obtain ⟨x6_3,x42_3,rfl,HA,HK3,HO_6,HB⟩:=hrel;have hl6_3:=(Kd.S_reads' HO_6.out).1;rw [hl6_3] at HO_6;(try simp only [hl6_3])
         cases gk with
         | zero => exact absurd HA.out (by simp [impl_PutUp.l1])
         | succ k3 =>
          have H:=HA.out;clear HA;simp only [impl_PutUp.l1] at H
          by_cases c28 : x42_3 < (l1.length : Int)
          ·rw [if_pos c28] at H;have c28b0 : decide (x42_3 < (l1.length : Int)) = true:=decide_eq_true c28;clear c28
           by_cases c29 : 0 ≤ x42_3
           ·rw [if_pos c29] at H;have c29b0 : decide (0 ≤ x42_3) = true:=decide_eq_true c29;clear c29
            by_cases c30 : x42_3 < (l1.length : Int)
            ·rw [if_pos c30] at H;have c30b0 : decide (x42_3 < (l1.length : Int)) = true:=decide_eq_true c30;clear c30;have H':=am H;clear H;have p195 : 0 ≤ (x42_3 : Int):=odt qq94;have q195 : x42_3 < (l1.length : Int):=odt qq94;obtain ⟨ad195,e195,hx195_0,hx195_1,hx195_2,hx195_3⟩:=at_T49 HR1.out x42_3 p195 q195
             cases e195
             replace hx195_0:=(ct HB.out hx195_0 :)
             replace hx195_1:=(ct HB.out hx195_1 :)
             replace hx195_2:=(ct HB.out hx195_2 :)
             replace hx195_3:=(ct HB.out hx195_3 :)
             replace p195:=eq_true p195;replace q195:=eq_true q195;go_wp2_with (first | ((with_reducible refine gate_dst (N:=9) rfl ?_);refine box_event ?hg (N:=9) ?hd (cs:=#[.int .i64 0,.int .i64 0,.int .i64 0,.bool false]) (t:=49) ?hr ?_;(case hd => rfl);(case hg => rfl);(case hr => exact qq96);intro gb196 hg w31 hbox hb;replace HO_6:=am qq143;have BK196:=am (hbox);have GW196:=am ((qq44 : w.heap.size ≤ gb196));have GE196:=am ((qq44 : w.heap.size ≤ gb196));replace HB:=am qq138;clear hb hbox hg;obtain ⟨hcz32_0,hcz32_1,hcz32_2,hcz32_3,hfz32_0,hfz32_1,hfz32_2,hfz32_3⟩:=bcl4 BK196.out))
             go_loopg [10] k3 (fun kq v10 w' => ∃ (x10_4 : Int),v10 = .int .i64 x10_4 ∧ Aside0 (impl_PutUp.l2 kq x6_3 x10_4 l1 (l1.length : Int) x42_3 ((rd_T49 l1 x42_3).f0) ((rd_T49 l1 x42_3).f1) ((rd_T49 l1 x42_3).f2) ((rd_T49 l1 x42_3).f3) = some (r1,r2)) ∧ Aside0 (kq ≤ k3) ∧ Aside0 (Kd.S k45 45 w' w.heap.size (fun _ => True) (.slice Ao13 x6_3.length co13) x6_3) ∧ Aside0 (w'.heap[gb196]? = some (.cells #[.int .i64 ((rd_T49 l1 x42_3).f0),.int .i64 ((rd_T49 l1 x42_3).f1),.int .i64 ((rd_T49 l1 x42_3).f2),.bool ((rd_T49 l1 x42_3).f3)] 49 (0,0))) ∧ Aside0 (Below w.heap.size w w'))
             case atStart => exact ⟨(0),qq95,H',⟨Nat.le_refl _⟩,⟨by (try simp only [hl6_2]);(try simp only [hl6_3]);(with_reducible repeat (first | apply Kd.S_alloc | apply Kd.S_drewN | apply Kd.S_drew));exact Kd.S_mono (Kd.S_far (p:=⟨gb196,3,none⟩) (Kd.S_far (p:=⟨gb196,2,none⟩) (Kd.S_far (p:=⟨gb196,1,none⟩) (Kd.S_far (p:=⟨gb196,0,none⟩) (Kd.S_types HO_6.out BK196.out (by decide)) (fun _ hk => hk.2) (.int .i64 ((rd_T49 l1 x42_3).f0))) (fun _ hk => hk.2) (.int .i64 ((rd_T49 l1 x42_3).f1))) (fun _ hk => hk.2) (.int .i64 ((rd_T49 l1 x42_3).f2))) (fun _ hk => hk.2) (.bool ((rd_T49 l1 x42_3).f3))) (fun _ hk => trivial)⟩,⟨by (try simp only [hl6_2]);(try simp only [hl6_3]);(with_reducible repeat (first | refine dN ?_ _ | refine dD ?_ | refine dA ?_ _));refine blk_put (cs:=#[.int .i64 ((rd_T49 l1 x42_3).f0),.int .i64 ((rd_T49 l1 x42_3).f1),.int .i64 ((rd_T49 l1 x42_3).f2),.bool false]) ?_ 3 _ rfl;(with_reducible repeat (first | refine dN ?_ _ | refine dD ?_ | refine dA ?_ _));refine blk_put (cs:=#[.int .i64 ((rd_T49 l1 x42_3).f0),.int .i64 ((rd_T49 l1 x42_3).f1),.int .i64 0,.bool false]) ?_ 2 _ rfl;(with_reducible repeat (first | refine dN ?_ _ | refine dD ?_ | refine dA ?_ _));refine blk_put (cs:=#[.int .i64 ((rd_T49 l1 x42_3).f0),.int .i64 0,.int .i64 0,.bool false]) ?_ 1 _ rfl;(with_reducible repeat (first | refine dN ?_ _ | refine dD ?_ | refine dA ?_ _));refine blk_put (cs:=#[.int .i64 0,.int .i64 0,.int .i64 0,.bool false]) ?_ 0 _ rfl;(with_reducible repeat (first | refine dN ?_ _ | refine dD ?_ | refine dA ?_ _));exact BK196.out⟩,⟨qq45⟩⟩
             case round =>
              clear H'
              try clear c1
              try clear p1
              try clear q1
              try clear hx1
              try clear c2
              try clear p2
              try clear hx2
              try clear hf2
              try clear c3
              try clear p6
              try clear c7
              try clear c12
              try clear c14
              try clear c14b0
              try clear c15
              try clear c15b0
              try clear c16
              try clear c16b0
              try clear c17
              try clear p17
              try clear q17
              try clear hx17
              try clear hf17
              try clear p19
              try clear q19
              try clear hx19
              try clear c20
              try clear hx20
              try clear hf20
              try clear c21
              try clear c22
              try clear c23
              try clear c23b0
              try clear c28
              try clear c28b0
              try clear c29
              try clear c29b0
              try clear c30
              try clear c30b0
              try clear hcz32_0
              try clear hcz32_1
              try clear hcz32_2
              try clear hcz32_3
              try clear hfz32_0
              try clear hfz32_1
              try clear hfz32_2
              try clear hfz32_3
              try clear hx17_0
              try clear hx17_1
              try clear hx17_2
              try clear hx195_0
              try clear hx195_1
              try clear hx195_2
              try clear hx195_3
              try clear hx20_2
              try clear p1
              try clear p17
              try clear p195
              try clear p2
              try clear p6
              try clear q1
              try clear q17
              try clear q195
              obtain ⟨x10_4,rfl,HA,HK4,HO_6,BK196,HB⟩:=hrel
              cases gk with
              | zero => exact absurd HA.out (by simp [impl_PutUp.l2])
              | succ k4 =>
               have H:=HA.out;clear HA;simp only [impl_PutUp.l2] at H
               by_cases c33 : 0 ≤ x10_4
               ·rw [if_pos c33] at H;have c33b0 : decide (0 ≤ x10_4) = true:=decide_eq_true c33;clear c33
                by_cases c34 : x10_4 < (x6_3.length : Int)
                ·rw [if_pos c34] at H;have c34b0 : decide (x10_4 < (x6_3.length : Int)) = true:=decide_eq_true c34;clear c34
                 by_cases c35 : (((rd_T45 x6_3 x10_4).f2).length : Int) = ((rd_T45 x6_3 x10_4).f1)
                 ·rw [if_pos c35] at H;have c35b0 : ((((rd_T45 x6_3 x10_4).f2).length : Int) == ((rd_T45 x6_3 x10_4).f1)) = true:=beq_iff_eq.mpr c35;have c35b1 : ((((rd_T45 x6_3 x10_4).f2).length : Int) != ((rd_T45 x6_3 x10_4).f1)) = false:=bne_eq_false_iff_eq.mpr c35;clear c35;have H':=am H;clear H
                  try go_wp2
                  replace HO_6:=am qq144;replace BK196:=am (blk_drew BK196.out);replace HB:=am qq141;have p197 : 0 ≤ (x10_4 : Int):=odt qq94;have q197 : x10_4 < (x6_3.length : Int):=odt qq94;obtain ⟨ad197,A197_2,c197_2,e197,hx197_0,hx197_1,hx197_2,hl197_2,hi197_2⟩:=at_T45 (Kd.S_reads' HO_6.out).2.2 x10_4 p197 q197
                  cases e197
                  obtain ⟨ce197,hce197,hMe197,hcc197⟩:=Kd.S_get HO_6.out z45 x10_4 p197 qq55;obtain ⟨ve197_2,rfl,ge197_2⟩:=k45_openM hMe197;have hv197_2:=hcc197 2 _ rfl;rw [add_field _ _ 2 (by omega)] at hv197_2;replace hv197_2:=Option.some.inj (hv197_2.symm.trans hx197_2);rw [hv197_2] at ge197_2;have HL197_2:=am (show Kd.R (Kd.int .i64) 3 _ _ _ _ ((rd_T45 x6_3 x10_4).f2) from ge197_2);clear hv197_2 ge197_2;have HX197_2:=am hx197_2;clear hcc197 hce197;have HR197_2:=am hi197_2;have HC197_2:=am hl197_2;clear hi197_2 hl197_2;replace p197:=eq_true p197;replace q197:=eq_true q197;have p198 : 0 ≤ (x10_4 : Int):=odt qq94;have q198 : x10_4 < (x6_3.length : Int):=odt qq94;obtain ⟨ad198,A198_2,c198_2,e198,hx198_0,hx198_1,hx198_2,hl198_2,hi198_2⟩:=at_T45 (Kd.S_reads' HO_6.out).2.2 x10_4 p198 q198;obtain rfl : ad197 = ad198:=(by injection e198)
                  obtain ⟨ce198,hce198,hMe198,hcc198⟩:=Kd.S_get HO_6.out z45 x10_4 p198 qq54;obtain ⟨ve198_2,rfl,ge198_2⟩:=k45_openM hMe198;have hv198_2:=hcc198 2 _ rfl;rw [add_field _ _ 2 (by omega)] at hv198_2;replace hv198_2:=Option.some.inj (hv198_2.symm.trans hx198_2);rw [hv198_2] at ge198_2;have HL198_2:=am (show Kd.R (Kd.int .i64) 3 _ _ _ _ ((rd_T45 x6_3 x10_4).f2) from ge198_2);clear hv198_2 ge198_2;have HX198_2:=am hx198_2;clear hcc198 hce198;have HR198_2:=am hi198_2;have HC198_2:=am hl198_2;clear hi198_2 hl198_2;replace p198:=eq_true p198;replace q198:=eq_true q198;have ea_:=Option.some.inj (hx197_2.symm.trans hx198_2)
                  injection ea_ with ea_ en_ ec_
                  subst ea_;subst ec_;clear en_;refine start_ (n:=12) (S:=fun w' => w'.cell? (ad197.add ((x10_4).toNat * 3)) = some (.int .i64 ((rd_T45 x6_3 x10_4).f0)) ∧ w'.cell? ⟨(ad197.add ((x10_4).toNat * 3)).block,(ad197.add ((x10_4).toNat * 3)).off + 1,none⟩ = some (.int .i64 ((rd_T45 x6_3 x10_4).f1)) ∧ w'.cell? ⟨(ad197.add ((x10_4).toNat * 3)).block,(ad197.add ((x10_4).toNat * 3)).off + 2,none⟩ = some (.slice A197_2 ((rd_T45 x6_3 x10_4).f2).length c197_2) ∧ w'.cell? (ad197.add ((x10_4).toNat * 3)) = some (.int .i64 ((rd_T45 x6_3 x10_4).f0)) ∧ w'.cell? ⟨(ad197.add ((x10_4).toNat * 3)).block,(ad197.add ((x10_4).toNat * 3)).off + 1,none⟩ = some (.int .i64 ((rd_T45 x6_3 x10_4).f1)) ∧ w'.cell? ⟨(ad197.add ((x10_4).toNat * 3)).block,(ad197.add ((x10_4).toNat * 3)).off + 2,none⟩ = some (.slice A197_2 ((rd_T45 x6_3 x10_4).f2).length c197_2)) (ds:=[]) #[Z,Z,Z,Z,Z,Z,Z,Z,Z,Z,Z,Z] (by kernel_rfl) rfl rfl ⟨hx197_0,hx197_1,hx197_2,hx198_0,hx198_1,hx198_2⟩ (fun hHeld => ?_);refine with_tabW impl_PutUp.tab15 impl_PutUp.bits15 (fun HT_ HW_ => ?_)
                  generalize wr.drew = w36 at HO_6 BK196 HB HL197_2 HL198_2 HR197_2 HR198_2 HX197_2 HX198_2 hx197_0 hx197_1 hx197_2 hx198_0 hx198_1 hx198_2 hHeld ⊢
                  refine pV (i:=0) (N:=some 46) #[Y,Z,Z,Z,Z,Z,Z,Z,Z,Z,Z,Z] rfl rfl qT ?_
                  refine pV (i:=1) (N:=some 47) #[Y,Y,Z,Z,Z,Z,Z,Z,Z,Z,Z,Z] rfl rfl qT ?_
                  refine pV (i:=2) (N:=some 48) #[Y,Y,Y,Z,Z,Z,Z,Z,Z,Z,Z,Z] rfl rfl qT ?_
                  refine pV (i:=3) (N:=some 49) #[Y,Y,Y,Y,Z,Z,Z,Z,Z,Z,Z,Z] rfl rfl qT ?_
                  refine pV (i:=6) (N:=some 52) #[Y,Y,Y,Y,Z,Z,Y,Z,Z,Z,Z,Z] rfl rfl qT ?_
                  refine pV (i:=7) (N:=some 53) #[Y,Y,Y,Y,Z,Z,Y,Y,Z,Z,Z,Z] rfl rfl qT ?_
                  refine pV (i:=8) (N:=some 54) #[Y,Y,Y,Y,Z,Z,Y,Y,Y,Z,Z,Z] rfl rfl qT ?_
                  refine pV (i:=9) (N:=some 55) #[Y,Y,Y,Y,Z,Z,Y,Y,Y,Y,Z,Z] rfl rfl qT ?_
                  refine tV6 (i:=4) (N:=some 50) #[Y,Y,Y,Y,Y,Z,Y,Y,Y,Y,Z,Z] rfl rfl (take_ofW HT_.out HW_.out (by kernel_rfl)) hHeld ?_
                  refine pV (i:=5) (N:=some 51) #[Y,Y,Y,Y,Y,Y,Y,Y,Y,Y,Z,Z] rfl rfl qT ?_
                  refine tV6 (i:=10) (N:=some 56) #[Y,Y,Y,Y,Y,Y,Y,Y,Y,Y,Y,Z] rfl rfl (take_ofW HT_.out HW_.out (by kernel_rfl)) hHeld ?_
                  refine pV (i:=11) (N:=some 57) #[Y,Y,Y,Y,Y,Y,Y,Y,Y,Y,Y,Y] rfl rfl qT ?_
                  refine done_ (done_of HT_.out (by kernel_rfl)) ?_
                  try go_wp2
                  go_roundg k4
                  case measure => have:=HJ3.out;have:=HK2.out;have:=HK3.out;have:=HK4.out;omega
                  case rel => exact ⟨(wrap64 (x10_4 + 1)),qq95,H',⟨qq91⟩,⟨by (try simp only [hl6_2]);(try simp only [hl6_3]);(with_reducible repeat (first | apply Kd.S_alloc | apply Kd.S_drewN | apply Kd.S_drew));exact HO_6.out⟩,⟨by (try simp only [hl6_2]);(try simp only [hl6_3]);(with_reducible repeat (first | refine dN ?_ _ | refine dD ?_ | refine dA ?_ _));exact BK196.out⟩,⟨qq45⟩⟩
                 ·rw [if_neg c35] at H;have c35b0 : ((((rd_T45 x6_3 x10_4).f2).length : Int) == ((rd_T45 x6_3 x10_4).f1)) = false:=beq_eq_false_iff_ne.mpr c35;have c35b1 : ((((rd_T45 x6_3 x10_4).f2).length : Int) != ((rd_T45 x6_3 x10_4).f1)) = true:=bne_iff_ne.mpr c35
                  by_cases c37 : ((rd_T45 x6_3 x10_4).f2).length < 17592186044416
                  ·rw [if_pos c37] at H;have LMc37:=am c37;clear c37;obtain ⟨y200,hy200⟩ : ∃ y_ : List Int,y_ = (((rd_T45 x6_3 x10_4).f2) ++ [((rd_T49 l1 x42_3).f0)]):=⟨_,rfl⟩
                   replace H : (impl_PutUp.l1 k4 (x6_3.set (x10_4 : Int).toNat (⟨(rd_T45 x6_3 x10_4).f0,(rd_T45 x6_3 x10_4).f1,y200⟩ : S45)) l1 (l1.length : Int) (wrap64 (x42_3 + 1))) = some (r1,r2):=by first | (rw [hy200];with_reducible exact H) | (have H2_:=(Option.bind_some _ _).symm.trans H;rw [hy200];with_reducible exact H2_) | (have H2_:=(Option.bind_some _ _).symm.trans H;with_reducible exact H2_) | with_reducible exact H | (rw [hy200];exact H) | exact H
                   have Ny200:=am hy200;clear hy200;obtain ⟨y203,hy203⟩ : ∃ y_ : List (S45),y_ = (x6_3.set (x10_4 : Int).toNat (⟨(rd_T45 x6_3 x10_4).f0,(rd_T45 x6_3 x10_4).f1,y200⟩ : S45)):=⟨_,rfl⟩
                   replace H : (impl_PutUp.l1 k4 y203 l1 (l1.length : Int) (wrap64 (x42_3 + 1))) = some (r1,r2):=by first | (rw [hy203];with_reducible exact H) | (have H2_:=(Option.bind_some _ _).symm.trans H;rw [hy203];with_reducible exact H2_) | (have H2_:=(Option.bind_some _ _).symm.trans H;with_reducible exact H2_) | with_reducible exact H | (rw [hy203];exact H) | exact H
                   have Ny203:=am hy203;clear hy203;have H':=am H;clear H
                   try go_wp2
                   replace HO_6:=am qq144;replace BK196:=am (blk_drew BK196.out);replace HB:=am qq141;have p197 : 0 ≤ (x10_4 : Int):=odt qq94;have q197 : x10_4 < (x6_3.length : Int):=odt qq94;obtain ⟨ad197,A197_2,c197_2,e197,hx197_0,hx197_1,hx197_2,hl197_2,hi197_2⟩:=at_T45 (Kd.S_reads' HO_6.out).2.2 x10_4 p197 q197
                   cases e197
                   obtain ⟨ce197,hce197,hMe197,hcc197⟩:=Kd.S_get HO_6.out z45 x10_4 p197 qq55;obtain ⟨ve197_2,rfl,ge197_2⟩:=k45_openM hMe197;have hv197_2:=hcc197 2 _ rfl;rw [add_field _ _ 2 (by omega)] at hv197_2;replace hv197_2:=Option.some.inj (hv197_2.symm.trans hx197_2);rw [hv197_2] at ge197_2;have HL197_2:=am (show Kd.R (Kd.int .i64) 3 _ _ _ _ ((rd_T45 x6_3 x10_4).f2) from ge197_2);clear hv197_2 ge197_2;have HX197_2:=am hx197_2;clear hcc197 hce197;have HR197_2:=am hi197_2;have HC197_2:=am hl197_2;clear hi197_2 hl197_2;replace p197:=eq_true p197;replace q197:=eq_true q197;have p198 : 0 ≤ (x10_4 : Int):=odt qq94;have q198 : x10_4 < (x6_3.length : Int):=odt qq94;obtain ⟨ad198,A198_2,c198_2,e198,hx198_0,hx198_1,hx198_2,hl198_2,hi198_2⟩:=at_T45 (Kd.S_reads' HO_6.out).2.2 x10_4 p198 q198;obtain rfl : ad197 = ad198:=(by injection e198)
                   obtain ⟨ce198,hce198,hMe198,hcc198⟩:=Kd.S_get HO_6.out z45 x10_4 p198 qq54;obtain ⟨ve198_2,rfl,ge198_2⟩:=k45_openM hMe198;have hv198_2:=hcc198 2 _ rfl;rw [add_field _ _ 2 (by omega)] at hv198_2;replace hv198_2:=Option.some.inj (hv198_2.symm.trans hx198_2);rw [hv198_2] at ge198_2;have HL198_2:=am (show Kd.R (Kd.int .i64) 3 _ _ _ _ ((rd_T45 x6_3 x10_4).f2) from ge198_2);clear hv198_2 ge198_2;have HX198_2:=am hx198_2;clear hcc198 hce198;have HR198_2:=am hi198_2;have HC198_2:=am hl198_2;clear hi198_2 hl198_2;replace p198:=eq_true p198;replace q198:=eq_true q198;have ea_:=Option.some.inj (hx197_2.symm.trans hx198_2)
                   injection ea_ with ea_ en_ ec_
                   subst ea_;subst ec_;clear en_;refine start_ (n:=12) (S:=fun w' => w'.cell? (ad197.add ((x10_4).toNat * 3)) = some (.int .i64 ((rd_T45 x6_3 x10_4).f0)) ∧ w'.cell? ⟨(ad197.add ((x10_4).toNat * 3)).block,(ad197.add ((x10_4).toNat * 3)).off + 1,none⟩ = some (.int .i64 ((rd_T45 x6_3 x10_4).f1)) ∧ w'.cell? ⟨(ad197.add ((x10_4).toNat * 3)).block,(ad197.add ((x10_4).toNat * 3)).off + 2,none⟩ = some (.slice A197_2 ((rd_T45 x6_3 x10_4).f2).length c197_2) ∧ w'.cell? (ad197.add ((x10_4).toNat * 3)) = some (.int .i64 ((rd_T45 x6_3 x10_4).f0)) ∧ w'.cell? ⟨(ad197.add ((x10_4).toNat * 3)).block,(ad197.add ((x10_4).toNat * 3)).off + 1,none⟩ = some (.int .i64 ((rd_T45 x6_3 x10_4).f1)) ∧ w'.cell? ⟨(ad197.add ((x10_4).toNat * 3)).block,(ad197.add ((x10_4).toNat * 3)).off + 2,none⟩ = some (.slice A197_2 ((rd_T45 x6_3 x10_4).f2).length c197_2)) (ds:=[]) #[Z,Z,Z,Z,Z,Z,Z,Z,Z,Z,Z,Z] (by kernel_rfl) rfl rfl ⟨hx197_0,hx197_1,hx197_2,hx198_0,hx198_1,hx198_2⟩ (fun hHeld => ?_);refine with_tabW impl_PutUp.tab15 impl_PutUp.bits15 (fun HT_ HW_ => ?_)
                   generalize wr.drew = w39 at HO_6 BK196 HB HL197_2 HL198_2 HR197_2 HR198_2 HX197_2 HX198_2 hx197_0 hx197_1 hx197_2 hx198_0 hx198_1 hx198_2 hHeld ⊢
                   refine pV (i:=0) (N:=some 46) #[Y,Z,Z,Z,Z,Z,Z,Z,Z,Z,Z,Z] rfl rfl qT ?_
                   refine pV (i:=1) (N:=some 47) #[Y,Y,Z,Z,Z,Z,Z,Z,Z,Z,Z,Z] rfl rfl qT ?_
                   refine pV (i:=2) (N:=some 48) #[Y,Y,Y,Z,Z,Z,Z,Z,Z,Z,Z,Z] rfl rfl qT ?_
                   refine pV (i:=3) (N:=some 49) #[Y,Y,Y,Y,Z,Z,Z,Z,Z,Z,Z,Z] rfl rfl qT ?_
                   refine pV (i:=6) (N:=some 52) #[Y,Y,Y,Y,Z,Z,Y,Z,Z,Z,Z,Z] rfl rfl qT ?_
                   refine pV (i:=7) (N:=some 53) #[Y,Y,Y,Y,Z,Z,Y,Y,Z,Z,Z,Z] rfl rfl qT ?_
                   refine pV (i:=8) (N:=some 54) #[Y,Y,Y,Y,Z,Z,Y,Y,Y,Z,Z,Z] rfl rfl qT ?_
                   refine pV (i:=9) (N:=some 55) #[Y,Y,Y,Y,Z,Z,Y,Y,Y,Y,Z,Z] rfl rfl qT ?_
                   refine tV6 (i:=4) (N:=some 50) #[Y,Y,Y,Y,Y,Z,Y,Y,Y,Y,Z,Z] rfl rfl (take_ofW HT_.out HW_.out (by kernel_rfl)) hHeld ?_
                   refine pV (i:=5) (N:=some 51) #[Y,Y,Y,Y,Y,Y,Y,Y,Y,Y,Z,Z] rfl rfl qT ?_
                   refine tV6 (i:=10) (N:=some 56) #[Y,Y,Y,Y,Y,Y,Y,Y,Y,Y,Y,Z] rfl rfl (take_ofW HT_.out HW_.out (by kernel_rfl)) hHeld ?_
                   refine pV (i:=11) (N:=some 57) #[Y,Y,Y,Y,Y,Y,Y,Y,Y,Y,Y,Y] rfl rfl qT ?_
                   refine done_ (done_of HT_.out (by kernel_rfl)) ?_
                   try go_wp2
                   replace HO_6:=am qq144;replace HL197_2:=am (Kd.R_drew HL197_2.out);replace HL198_2:=am (Kd.R_drew HL198_2.out);replace BK196:=am (blk_drew BK196.out);replace HR197_2:=am (Kd.C_drew HR197_2.out);replace HR198_2:=am (Kd.C_drew HR198_2.out);replace HB:=am qq141;have p199 : 0 ≤ (x10_4 : Int):=odt qq94;have q199 : x10_4 < (x6_3.length : Int):=odt qq94;obtain ⟨ad199,A199_2,c199_2,e199,hx199_0,hx199_1,hx199_2,hl199_2,hi199_2⟩:=at_T45 (Kd.S_reads' HO_6.out).2.2 x10_4 p199 q199;obtain rfl : ad197 = ad199:=(by injection e199)
                   obtain ⟨ce199,hce199,hMe199,hcc199⟩:=Kd.S_get HO_6.out z45 x10_4 p199 (by first | exact q199 | exact odt qq94 | (have e_:=(Kd.S_reads' HO_6.out).1;omega));obtain ⟨ve199_2,rfl,ge199_2⟩:=k45_openM hMe199;have hv199_2:=hcc199 2 _ rfl;rw [add_field _ _ 2 (by omega)] at hv199_2;replace hv199_2:=Option.some.inj (hv199_2.symm.trans hx199_2);rw [hv199_2] at ge199_2;have HL199_2:=am (show Kd.R (Kd.int .i64) 3 _ _ _ _ ((rd_T45 x6_3 x10_4).f2) from ge199_2);clear hv199_2 ge199_2;have HX199_2:=am hx199_2;clear hcc199 hce199;have HR199_2:=am hi199_2;have HC199_2:=am hl199_2;clear hi199_2 hl199_2;replace p199:=eq_true p199;replace q199:=eq_true q199;obtain ⟨go41,co41,eo41,gb41,gl41,cl41,HG41⟩:=Kd.S_form HO_6.out (by have h_ : (x10_4 : Int) < ((x6_3.length : Int) : Int):=odt qq94;have h2_ : 0 ≤ (x10_4 : Int):=(odt qq94);omega);(first | cases eo41 | (injection eo41 with ea_ en_ ec_;(first | subst ea_ | (injection ea_ with ea_;subst ea_));subst ec_;clear en_));have GB41:=am gb41;have GG41:=am HG41;clear gb41 gl41 HG41;(first | simp only [add_plain] at hx197_0 | skip);(first | simp only [add_plain] at hx197_1 | skip);(first | simp only [add_plain] at hx197_2 | skip);(first | simp only [add_plain] at hx198_0 | skip);(first | simp only [add_plain] at hx198_1 | skip);(first | simp only [add_plain] at hx198_2 | skip);(first | simp only [add_plain] at hx199_0 | skip);(first | simp only [add_plain] at hx199_1 | skip);(first | simp only [add_plain] at hx199_2 | skip);obtain ⟨oki41,ce41,hcl41,hM41,hcc41,_,_,hH41⟩:=Kd.S_elem HO_6.out z45 (x10_4 : Int) (odt qq94) (by have h_ : (x10_4 : Int) < ((x6_3.length : Int) : Int):=odt qq94;first | exact h_ | (have e_:=(Kd.S_reads' HO_6.out).1;omega) | simpa using h_);obtain ⟨ve41_2,rfl,ge41_2⟩:=k45_openM hM41;have hv41:=hcc41 2 _ rfl;have hX41:=HX199_2.out;(try simp only [add_plain] at hX41);(try simp only [Nat.add_zero] at hv41);replace hv41:=Option.some.inj (hv41.symm.trans hX41);subst hv41;clear hX41 hcc41 hcl41;have UU41:=am (show Kd.R (Kd.int .i64) 3 _ w.heap.size oki41 (.slice A199_2 ((rd_T45 x6_3 x10_4).f2).length c199_2) ((rd_T45 x6_3 x10_4).f2) from ge41_2);have HH41:=am hH41;have HN41:=am (Kd.S_reads' HO_6.out).1;clear hH41 ge41_2;refine start_ (n:=14) (S:=fun w' => w'.cell? ⟨gb196,0,none⟩ = some (.int .i64 ((rd_T49 l1 x42_3).f0)) ∧ w'.cell? ⟨gb196,1,none⟩ = some (.int .i64 ((rd_T49 l1 x42_3).f1)) ∧ w'.cell? ⟨gb196,2,none⟩ = some (.int .i64 ((rd_T49 l1 x42_3).f2)) ∧ w'.cell? ⟨gb196,3,none⟩ = some (.bool ((rd_T49 l1 x42_3).f3)) ∧ w'.cell? ⟨go41,((x10_4).toNat * 3),none⟩ = some (.int .i64 ((rd_T45 x6_3 x10_4).f0)) ∧ w'.cell? ⟨go41,((x10_4).toNat * 3) + 1,none⟩ = some (.int .i64 ((rd_T45 x6_3 x10_4).f1)) ∧ w'.cell? ⟨go41,((x10_4).toNat * 3) + 2,none⟩ = some (.slice A199_2 ((rd_T45 x6_3 x10_4).f2).length c199_2)) (ds:=[13]) #[Z,Z,Z,Z,Z,Z,Z,Z,Z,Z,Z,Z,Z,Z] (by kernel_rfl) rfl rfl ⟨(blk_cell BK196.out 0).trans rfl,(blk_cell BK196.out 1).trans rfl,(blk_cell BK196.out 2).trans rfl,(blk_cell BK196.out 3).trans rfl,hx199_0,hx199_1,hx199_2⟩ (fun hHeld => ?_);refine with_tabW impl_PutUp.tab17 impl_PutUp.bits17 (fun HT_ HW_ => ?_)
                   generalize w39.drew = w40 at HO_6 HL197_2 HL198_2 BK196 HR197_2 HR198_2 HB GG41 HH41 HL199_2 HR199_2 HX199_2 UU41 hx197_0 hx197_1 hx197_2 hx198_0 hx198_1 hx198_2 hx199_0 hx199_1 hx199_2 hHeld ⊢
                   refine pV (i:=0) (N:=some 60) #[Y,Z,Z,Z,Z,Z,Z,Z,Z,Z,Z,Z,Z,Z] rfl rfl qT ?_
                   refine pV (i:=1) (N:=some 61) #[Y,Y,Z,Z,Z,Z,Z,Z,Z,Z,Z,Z,Z,Z] rfl rfl qT ?_
                   refine pV (i:=2) (N:=some 62) #[Y,Y,Y,Z,Z,Z,Z,Z,Z,Z,Z,Z,Z,Z] rfl rfl qT ?_
                   refine pV (i:=3) (N:=some 63) #[Y,Y,Y,Y,Z,Z,Z,Z,Z,Z,Z,Z,Z,Z] rfl rfl qT ?_
                   refine pV (i:=4) (N:=some 64) #[Y,Y,Y,Y,Y,Z,Z,Z,Z,Z,Z,Z,Z,Z] rfl rfl qT ?_
                   refine pV (i:=5) (N:=some 65) #[Y,Y,Y,Y,Y,Y,Z,Z,Z,Z,Z,Z,Z,Z] rfl rfl qT ?_
                   refine pV (i:=7) (N:=some 67) #[Y,Y,Y,Y,Y,Y,Z,Y,Z,Z,Z,Z,Z,Z] rfl rfl qT ?_
                   refine tV7 (i:=6) (N:=some 66) #[Y,Y,Y,Y,Y,Y,Y,Y,Z,Z,Z,Z,Z,Z] rfl rfl (take_ofW HT_.out HW_.out (by kernel_rfl)) hHeld ?_
                   refine tV7 (i:=8) (N:=some 68) #[Y,Y,Y,Y,Y,Y,Y,Y,Y,Z,Z,Z,Z,Z] rfl rfl (take_ofW HT_.out HW_.out (by kernel_rfl)) hHeld ?_
                   refine one_ (i:=9) (N:=some 69) #[Y,Y,Y,Y,Y,Y,Y,Y,Y,Y,Z,Z,Z,Z] rfl rfl (one_of HT_.out (by kernel_rfl)) (by decide) (fun K hK => ?_);refine value_ (w1:=?_) (v:=?_) (by rfl) rfl ?_ ?_;rotate_left 2
                   ·go_simp
                    constructor
                    ·rfl
                    ·rfl
                   refine hK.out _ _ ⟨(blk_cell (blk_alloc BK196.out _) 0).trans rfl,(blk_cell (blk_alloc BK196.out _) 1).trans rfl,(blk_cell (blk_alloc BK196.out _) 2).trans rfl,(blk_cell (blk_alloc BK196.out _) 3).trans rfl,(World.cell?_alloc_lt _ _ _ (bl _ _ (hHeld.2.2.2.2.1))).trans (hHeld.2.2.2.2.1),(World.cell?_alloc_lt _ _ _ (bl _ _ (hHeld.2.2.2.2.2.1))).trans (hHeld.2.2.2.2.2.1),(World.cell?_alloc_lt _ _ _ (bl _ _ (hHeld.2.2.2.2.2.2))).trans (hHeld.2.2.2.2.2.2)⟩ (fun hHeld => ?_);clear hK K;refine norm_ (a':=?_) ?_ ?_;rotate_left
                   ·show Act.put _ (some 69) _ = _
                    simp only [Act.put,sA,s0,s1,i64_w,i32_w];rfl
                   refine one_ (i:=10) (N:=some 70) #[Y,Y,Y,Y,Y,Y,Y,Y,Y,Y,Y,Z,Z,Z] rfl rfl (one_of HT_.out (by kernel_rfl)) (by decide) (fun K hK => ?_);refine Kd.R_append_step (Kd.int .i64) (w0:=w) w.heap.size (by rfl) (.tmp 66) (.tmp 69) 43 3 (.int .i64 0) 8 rfl Try.underlying43 info3 rfl (by decide) (by omega) (.slice A199_2 ((rd_T45 x6_3 x10_4).f2).length c199_2) ((rd_T45 x6_3 x10_4).f2) ((rd_T49 l1 x42_3).f0) [.int .i64 ((rd_T49 l1 x42_3).f0)] (fun k_ => oki41 k_ ∨ ((fun _ => True)) k_ ∧ w40.heap.size ≤ k_) (fun _ => False) rfl rfl ?aP (fun _ hk => hk.elim) ?aF ?aO ?aB ?aS ?aL ?_;(case aP => exact rfl);(case aB => exact qq45);(case aF => exact qq97);(case aO => exact (by (with_reducible repeat (first | apply kA | apply kN | apply kD));exact Kd.R_mono UU41.out (fun _ hk => .inl hk)));(case aS => exact (below_size qq45));(case aL => have:=LMc37.out;omega);intro v201 w42 ho hb hg hat;(first | have HS4_:=cell_grown hg (hHeld.2.2.2.2.1) qq5 | have HS4_:=cell_grown hg (cell_unalloc (hHeld.2.2.2.2.1) qq22) qq5);(first | have HS5_:=cell_grown hg (hHeld.2.2.2.2.2.1) qq5 | have HS5_:=cell_grown hg (cell_unalloc (hHeld.2.2.2.2.2.1) qq22) qq5);(first | have HS6_:=cell_grown hg (hHeld.2.2.2.2.2.2) qq5 | have HS6_:=cell_grown hg (cell_unalloc (hHeld.2.2.2.2.2.2) qq22) qq5);rw [← Ny200.out] at ho;replace BK196:=am (blk_grown (g:=gb196) (o:=.cells #[.int .i64 ((rd_T49 l1 x42_3).f0),.int .i64 ((rd_T49 l1 x42_3).f1),.int .i64 ((rd_T49 l1 x42_3).f2),.bool ((rd_T49 l1 x42_3).f3)] 49 (0,0)) (by (with_reducible repeat (first | refine dN ?_ _ | refine dD ?_ | refine dA ?_ _));exact BK196.out) hg (Kd.R_ne HL199_2.out BK196.out (by decide)));replace HB:=am (hb);replace HH41:=am (Kd.H_grown (Kd.H_widen (by repeat (first | exact HH41.out | refine Kd.H_alloc ?_ _ | refine Kd.H_drewN ?_ _ | refine Kd.H_drew ?_))) hg (fun k_ e_ => .inl (UU41.out.1 k_ e_)));have HO202:=am (ho);clear HO_6 UU41 HL197_2 HL198_2 HL199_2;clear ho hb hg hat;have p38 : 0 ≤ (x10_4 : Int):=odt qq94;have q38 : (x10_4 : Int) < ((x6_3.length : Int) : Int):=odt qq94;replace p38:=eq_true p38;replace q38:=eq_true q38;obtain ⟨Ao45,co45,eo45⟩:=Kd.R_slice HO202.out;(first | subst eo45 | (injection eo45 with f1_ f2_ f3_;have f4_:=f1_.symm;have f5_:=f3_.symm;clear f1_ f2_ f3_;subst f4_;subst f5_));obtain ⟨_,_,hraw43,_,_,hcc43,_⟩:=Kd.H_raw HH41.out (odt qq94) qq13;obtain ⟨_,hfr43⟩:=Kd.H_at HH41.out (odt qq94) qq13;have hx43_0:=hcc43 2 _ rfl;have hf43_0:=hfr43 2;(try rw [show (k45).sz = 3 from rfl] at hx43_0);(try rw [show (k45).sz = 3 from rfl] at hf43_0);have HP43:=Kd.S_seg0 HH41.out (odt qq94) qq13 (seg:=[.slice Ao45 y200.length co45]) (j:=2) (show 3 ≤ 3 from by decide) (x':=(⟨(rd_T45 x6_3 x10_4).f0,(rd_T45 x6_3 x10_4).f1,y200⟩ : S45)) (k45_mkM _ _ _ (⟨(rd_T45 x6_3 x10_4).f0,(rd_T45 x6_3 x10_4).f1,y200⟩ : S45) HO202.out) (fun _ hk => hk);clear hcc43 hfr43;have HNB196_go41:=am (show gb196 ≠ go41 from by have h_:=Kd.R_ne hraw43 BK196.out (by decide);intro e_;exact h_ (by rw [e_];rfl));have HS43:=HP43.1;rw [← Ny203.out] at HS43;have HQ43:=am HS43;obtain ⟨_,hgg43⟩:=Kd.R_typed hraw43 go41 rfl;have GG43_:=am hgg43;clear HP43 HS43 hgg43;refine hK.out _ _ ⟨(blk_cell BK196.out 0).trans rfl,(blk_cell BK196.out 1).trans rfl,(blk_cell BK196.out 2).trans rfl,(blk_cell BK196.out 3).trans rfl,HS4_,HS5_,HS6_⟩ (fun hHeld => ?_);clear hK K;refine norm_ (a':=?_) ?_ ?_;rotate_left
                   ·show Act.put _ (some 70) _ = _
                    simp only [Act.put,sA,s0,s1,i64_w,i32_w];rfl
                   refine pV (i:=11) (N:=some 71) #[Y,Y,Y,Y,Y,Y,Y,Y,Y,Y,Y,Y,Z,Z] rfl rfl qT ?_
                   refine pV (i:=12) (N:=some 72) #[Y,Y,Y,Y,Y,Y,Y,Y,Y,Y,Y,Y,Y,Z] rfl rfl qT ?_
                   refine last_ (i:=13) (N:=none) #[Y,Y,Y,Y,Y,Y,Y,Y,Y,Y,Y,Y,Y,Y] rfl rfl (one_of HT_.out (by kernel_rfl)) (by decide) (fun K hK => ?_);refine skip_ (w1:=?_) (by rfl) rfl ?_ ?_;rotate_left
                   ·go_simp;rfl
                   refine hK.out _ _ ?_;clear hK K;refine done_ (done_of HT_.out (by kernel_rfl)) ?_
                   try go_wp2
                   (try simp only [← hl6_3])
                   go_roundg k4
                   case measure => have:=HJ3.out;have:=HK2.out;have:=HK3.out;have:=HK4.out;omega
                   case rel => exact ⟨(y203),(wrap64 (x42_3 + 1)),qq95,H',⟨qq91⟩,⟨by (try simp only [hl6_2]);(try simp only [hl6_3]);(with_reducible repeat (first | apply Kd.S_alloc | apply Kd.S_drewN | apply Kd.S_drew));exact HQ43.out⟩,⟨by repeat (first | (with_reducible first | exact HB.out | apply bA | apply bN | apply bD | refine below_set ?_ GB41.out | refine below_set ?_ GE196.out) | exact HB.out)⟩⟩
                  ·rw [if_neg c37] at H;exact absurd H (by simp)
                ·rw [if_neg c34] at H;exact absurd H (by simp)
               ·rw [if_neg c33] at H;exact absurd H (by simp)
            ·rw [if_neg c30] at H;exact absurd H (by simp)
           ·rw [if_neg c29] at H;exact absurd H (by simp)
          ·rw [if_neg c28] at H;have c28b0 : decide (x42_3 < (l1.length : Int)) = false:=decide_eq_false c28;clear c28;simp only [Option.some.injEq,Prod.mk.injEq] at H;obtain ⟨rfl,rfl⟩:=H;go_wp2
           go_ret2
           exact ⟨_,qq81,qq75,qq73⟩

end Go.Proofs.Ytnghncedinngoaa.PFnTents
