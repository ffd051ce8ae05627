/- Contracts of functions that the law FnTents reaches, for its row: lines that the kit's printer wrote for this claim, set shorter by a program of this session (own.py), and what fell in Lean proved anew. Lean checks them. -/
import Derived.Test.YtnghncedinngoaaSFnTentsx0
import Derived.Test.YtnghncedinngoaaSFnTentsx2
import Derived.Test.YtnghncedinngoaaSFnTentsx3
import Derived.Test.YtnghncedinngoaaSFnTentsx4
import Derived.Test.YtnghncedinngoaaSFnTentsx5
import Derived.Test.YtnghncedinngoaaSFnTentsx7
import Derived.Test.YtnghncedinngoaaSFnTentsx8
import Derived.Test.YtnghncedinngoaaSFnTentsx12
namespace Go.Proofs.Ytnghncedinngoaa.PFnTents
open Go.RowKit Go.Proofs.YtnghncedinngoaaW.PrintWords Go.Proofs.YtnghncedinngoaaW.PrintLast Go.Proofs.YtnghncedinngoaaW.PrintMore
attribute [local go_sem] max2_int min2_int max_two min_two max_three min_three max_four min_four   -- for this text's walks alone
set_option linter.unusedVariables false
set_option linter.unusedSimpArgs false

/-! ### laws_FnTents: function 5 -/
mutual
def laws_FnTents.j3 : Nat → List Int → Option (Bool)
 | 0,_ => none
 | k + 1,x0 => (spec_DrawMoveTo.f k x0).bind fun bt415 => ((impl_MoveTo.f k bt415.1 bt415.2.1 bt415.2.2).bind fun bt420 => (if (bt420.1.length : Int) = (bt415.1.length : Int) then (if bt420.2 = true then ((impl_AreTents.f k bt420.1).bind fun t424 => (if t424 = true then ((impl_TentOf.f k bt420.1 bt415.2.1).bind fun t425 => (if t425 = bt415.2.2 then ((impl_BedsFree.f k bt420.1).bind fun t426 => ((impl_BedsFree.f k bt415.1).bind fun t427 => (if t426 = t427 then (some true) else (some false)))) else (some false))) else (some false))) else ((impl_TentOf.f k bt420.1 bt415.2.1).bind fun t428 => ((impl_TentOf.f k bt415.1 bt415.2.1).bind fun t429 => (some (t428 == t429))))) else (some false)))
def laws_FnTents.l0 : Nat → List Int → List (S49) → List (S45) → Int → Int → Option (Bool)
 | 0,_,_,_,_,_ => none
 | k + 1,x0,x4,x5,x7,x8 => if x8 < (x5.length : Int) then (if 0 ≤ x8 then (laws_FnTents.l0 k x0 x4 x5 (wrap64 (x7 + ((rd_T45 x5 x8).f1))) (wrap64 (x8 + 1))) else (none)) else ((impl_AreTents.f k x5).bind fun t411 => (if t411 = true then ((impl_BedsFree.f k x5).bind fun t412 => (laws_FnTents.j1 k x0 x4 x5 (t412 != (wrap64 (x7 - (x4.length : Int)))))) else (laws_FnTents.j1 k x0 x4 x5 true)))
def laws_FnTents.j1 : Nat → List Int → List (S49) → List (S45) → Bool → Option (Bool)
 | 0,_,_,_,_ => none
 | k + 1,x0,x4,x5,x53 => if x53 = true then (some false) else (laws_FnTents.l1 k x0 x4 x5 0)
def laws_FnTents.l1 : Nat → List Int → List (S49) → List (S45) → Int → Option (Bool)
 | 0,_,_,_,_ => none
 | k + 1,x0,x4,x5,x9 => if x9 < (x4.length : Int) then (if 0 ≤ x9 then ((impl_TentOf.f k x5 ((rd_T49 x4 x9).f0)).bind fun t414 => (if t414 = 0 then (some false) else (laws_FnTents.l1 k x0 x4 x5 (wrap64 (x9 + 1))))) else (none)) else (laws_FnTents.j3 k x0)
end
def laws_FnTents.f (k : Nat) (l0 : List Int) : Option (Bool) := (laws_big.f l0).bind fun t399 => (if t399 = true then (some true) else ((spec_DrawPutUp.f k l0).bind fun bt400 => ((impl_PutUp.f k bt400.1 bt400.2).bind fun bt406 => (if bt406.2 = true then (laws_FnTents.l0 k l0 bt400.2 bt406.1 0 0) else (laws_FnTents.j3 k l0)))))
theorem laws_FnTents.mono_l : ∀ k, (∀ y0, LeO (laws_FnTents.j3 k y0) (laws_FnTents.j3 (k + 1) y0)) ∧ (∀ y0 y1 y2 y3 y4, LeO (laws_FnTents.l0 k y0 y1 y2 y3 y4) (laws_FnTents.l0 (k + 1) y0 y1 y2 y3 y4)) ∧ (∀ y0 y1 y2 y3, LeO (laws_FnTents.j1 k y0 y1 y2 y3) (laws_FnTents.j1 (k + 1) y0 y1 y2 y3)) ∧ (∀ y0 y1 y2 y3, LeO (laws_FnTents.l1 k y0 y1 y2 y3) (laws_FnTents.l1 (k + 1) y0 y1 y2 y3))
 | 0 => ⟨fun _ r h => by simp [laws_FnTents.j3] at h,fun _ _ _ _ _ r h => by simp [laws_FnTents.l0] at h,fun _ _ _ _ r h => by simp [laws_FnTents.j1] at h,fun _ _ _ _ r h => by simp [laws_FnTents.l1] at h⟩
 | k + 1 => by
  obtain ⟨ih0,ih1,ih2,ih3⟩:=laws_FnTents.mono_l k
  refine ⟨?_,?_,?_,?_⟩
  ·intro y0
   unfold laws_FnTents.j3
   repeat' first
   | (with_reducible exact ih0 _)
   | (with_reducible exact ih1 _ _ _ _ _)
   | (with_reducible exact ih2 _ _ _ _)
   | (with_reducible exact ih3 _ _ _ _)
   | (with_reducible exact impl_AreTents.mono _ _)
   | (with_reducible exact impl_BedsFree.mono _ _)
   | (with_reducible exact impl_MoveTo.mono _ _ _ _)
   | (with_reducible exact impl_PutUp.mono _ _ _)
   | (with_reducible exact impl_TentOf.mono _ _ _)
   | (with_reducible exact spec_DrawMoveTo.mono _ _)
   | (with_reducible exact spec_DrawPutUp.mono _ _)
   | (with_reducible exact LeO.refl _)
   | (with_reducible exact LeO.none _)
   | (with_reducible refine LeO.ite ?_ ?_)
   | (with_reducible refine LeO.bind ?_ (fun _ => ?_))
   | exact ih0 _
   | exact ih1 _ _ _ _ _
   | exact ih2 _ _ _ _
   | exact ih3 _ _ _ _
   | exact impl_AreTents.mono _ _
   | exact impl_BedsFree.mono _ _
   | exact impl_MoveTo.mono _ _ _ _
   | exact impl_PutUp.mono _ _ _
   | exact impl_TentOf.mono _ _ _
   | exact spec_DrawMoveTo.mono _ _
   | exact spec_DrawPutUp.mono _ _
   | exact LeO.none _
   | refine LeO.ite ?_ ?_
   | refine LeO.bind ?_ (fun _ => ?_)
  ·intro y0 y1 y2 y3 y4
   unfold laws_FnTents.l0
   repeat' first
   | (with_reducible exact ih0 _)
   | (with_reducible exact ih1 _ _ _ _ _)
   | (with_reducible exact ih2 _ _ _ _)
   | (with_reducible exact ih3 _ _ _ _)
   | (with_reducible exact impl_AreTents.mono _ _)
   | (with_reducible exact impl_BedsFree.mono _ _)
   | (with_reducible exact impl_MoveTo.mono _ _ _ _)
   | (with_reducible exact impl_PutUp.mono _ _ _)
   | (with_reducible exact impl_TentOf.mono _ _ _)
   | (with_reducible exact spec_DrawMoveTo.mono _ _)
   | (with_reducible exact spec_DrawPutUp.mono _ _)
   | (with_reducible exact LeO.refl _)
   | (with_reducible exact LeO.none _)
   | (with_reducible refine LeO.ite ?_ ?_)
   | (with_reducible refine LeO.bind ?_ (fun _ => ?_))
   | exact ih0 _
   | exact ih1 _ _ _ _ _
   | exact ih2 _ _ _ _
   | exact ih3 _ _ _ _
   | exact impl_AreTents.mono _ _
   | exact impl_BedsFree.mono _ _
   | exact impl_MoveTo.mono _ _ _ _
   | exact impl_PutUp.mono _ _ _
   | exact impl_TentOf.mono _ _ _
   | exact spec_DrawMoveTo.mono _ _
   | exact spec_DrawPutUp.mono _ _
   | exact LeO.none _
   | refine LeO.ite ?_ ?_
   | refine LeO.bind ?_ (fun _ => ?_)
  ·intro y0 y1 y2 y3
   unfold laws_FnTents.j1
   repeat' first
   | (with_reducible exact ih0 _)
   | (with_reducible exact ih1 _ _ _ _ _)
   | (with_reducible exact ih2 _ _ _ _)
   | (with_reducible exact ih3 _ _ _ _)
   | (with_reducible exact impl_AreTents.mono _ _)
   | (with_reducible exact impl_BedsFree.mono _ _)
   | (with_reducible exact impl_MoveTo.mono _ _ _ _)
   | (with_reducible exact impl_PutUp.mono _ _ _)
   | (with_reducible exact impl_TentOf.mono _ _ _)
   | (with_reducible exact spec_DrawMoveTo.mono _ _)
   | (with_reducible exact spec_DrawPutUp.mono _ _)
   | (with_reducible exact LeO.refl _)
   | (with_reducible exact LeO.none _)
   | (with_reducible refine LeO.ite ?_ ?_)
   | (with_reducible refine LeO.bind ?_ (fun _ => ?_))
   | exact ih0 _
   | exact ih1 _ _ _ _ _
   | exact ih2 _ _ _ _
   | exact ih3 _ _ _ _
   | exact impl_AreTents.mono _ _
   | exact impl_BedsFree.mono _ _
   | exact impl_MoveTo.mono _ _ _ _
   | exact impl_PutUp.mono _ _ _
   | exact impl_TentOf.mono _ _ _
   | exact spec_DrawMoveTo.mono _ _
   | exact spec_DrawPutUp.mono _ _
   | exact LeO.none _
   | refine LeO.ite ?_ ?_
   | refine LeO.bind ?_ (fun _ => ?_)
  ·intro y0 y1 y2 y3
   unfold laws_FnTents.l1
   repeat' first
   | (with_reducible exact ih0 _)
   | (with_reducible exact ih1 _ _ _ _ _)
   | (with_reducible exact ih2 _ _ _ _)
   | (with_reducible exact ih3 _ _ _ _)
   | (with_reducible exact impl_AreTents.mono _ _)
   | (with_reducible exact impl_BedsFree.mono _ _)
   | (with_reducible exact impl_MoveTo.mono _ _ _ _)
   | (with_reducible exact impl_PutUp.mono _ _ _)
   | (with_reducible exact impl_TentOf.mono _ _ _)
   | (with_reducible exact spec_DrawMoveTo.mono _ _)
   | (with_reducible exact spec_DrawPutUp.mono _ _)
   | (with_reducible exact LeO.refl _)
   | (with_reducible exact LeO.none _)
   | (with_reducible refine LeO.ite ?_ ?_)
   | (with_reducible refine LeO.bind ?_ (fun _ => ?_))
   | exact ih0 _
   | exact ih1 _ _ _ _ _
   | exact ih2 _ _ _ _
   | exact ih3 _ _ _ _
   | exact impl_AreTents.mono _ _
   | exact impl_BedsFree.mono _ _
   | exact impl_MoveTo.mono _ _ _ _
   | exact impl_PutUp.mono _ _ _
   | exact impl_TentOf.mono _ _ _
   | exact spec_DrawMoveTo.mono _ _
   | exact spec_DrawPutUp.mono _ _
   | exact LeO.none _
   | refine LeO.ite ?_ ?_
   | refine LeO.bind ?_ (fun _ => ?_)
theorem laws_FnTents.mono : ∀ a0 k, LeO (laws_FnTents.f k a0) (laws_FnTents.f (k + 1) a0) := by
 intro a0 k
 obtain ⟨ih0,ih1,ih2,ih3⟩:=laws_FnTents.mono_l k
 unfold laws_FnTents.f
 repeat' first
   | (with_reducible exact ih0 _)
   | (with_reducible exact ih1 _ _ _ _ _)
   | (with_reducible exact ih2 _ _ _ _)
   | (with_reducible exact ih3 _ _ _ _)
   | (with_reducible exact impl_AreTents.mono _ _)
   | (with_reducible exact impl_BedsFree.mono _ _)
   | (with_reducible exact impl_MoveTo.mono _ _ _ _)
   | (with_reducible exact impl_PutUp.mono _ _ _)
   | (with_reducible exact impl_TentOf.mono _ _ _)
   | (with_reducible exact spec_DrawMoveTo.mono _ _)
   | (with_reducible exact spec_DrawPutUp.mono _ _)
   | (with_reducible exact LeO.refl _)
   | (with_reducible exact LeO.none _)
   | (with_reducible refine LeO.ite ?_ ?_)
   | (with_reducible refine LeO.bind ?_ (fun _ => ?_))
   | exact ih0 _
   | exact ih1 _ _ _ _ _
   | exact ih2 _ _ _ _
   | exact ih3 _ _ _ _
   | exact impl_AreTents.mono _ _
   | exact impl_BedsFree.mono _ _
   | exact impl_MoveTo.mono _ _ _ _
   | exact impl_PutUp.mono _ _ _
   | exact impl_TentOf.mono _ _ _
   | exact spec_DrawMoveTo.mono _ _
   | exact spec_DrawPutUp.mono _ _
   | exact LeO.none _
   | refine LeO.ite ?_ ?_
   | refine LeO.bind ?_ (fun _ => ?_)
set_option maxHeartbeats 8000000 in
set_option maxRecDepth 100000 in
theorem laws_FnTents.calls (k : Nat) (A0 : Option Addr) (c0 : Nat) (l0 : List Int) (r : Bool) (w : World) (hr0 : Kd.C (Kd.int .u8) w A0 l0.length l0) (hc0 : l0.length ≤ c0) (h : laws_FnTents.f k l0 = some r) :
  Calls Try.prog 5 #[.slice A0 l0.length c0] w fun e w' => e = .returned (.bool r) ∧ Below w.heap.size w w':=by
 have HR0:=am hr0;have HC0:=am hc0;clear hr0 hc0;have HB:=am qq135;have H : ((laws_big.f l0).bind fun t399 => (if t399 = true then (some true) else ((spec_DrawPutUp.f k l0).bind fun bt400 => ((impl_PutUp.f k bt400.1 bt400.2).bind fun bt406 => (if bt406.2 = true then (laws_FnTents.l0 k l0 bt400.2 bt406.1 0 0) else (laws_FnTents.j3 k l0)))))) = some r:=h;clear h;replace H:=bS.mp H;obtain ⟨t399,A20,H⟩:=H;replace H : (if t399 = true then (some true) else ((spec_DrawPutUp.f k l0).bind fun bt400 => ((impl_PutUp.f k bt400.1 bt400.2).bind fun bt406 => (if bt406.2 = true then (laws_FnTents.l0 k l0 bt400.2 bt406.1 0 0) else (laws_FnTents.j3 k l0))))) = some r:=H;have A2:=am A20;clear A20
 by_cases c3 : t399 = true
 ·subst c3;have H1 : (some true) = some r:=by rw [if_pos rfl] at H;exact H
  clear H;have H:=H1;clear H1;obtain rfl:=Option.some.inj H
  go_enter Try.func5,Try.ntmps5
  go_wp2_with (first | ((with_reducible refine gate_callee (f:=19) rfl ?_);refine goesL_ (some 16) rfl rfl Try.func19 (by kernel_rfl) rfl #[.slice A0 l0.length c0] rfl qq50 ?_;(with_reducible refine (laws_big.calls _ _ l0 true _ ?side1 ?side2 A2.out).mono ?_);(case side1 => exact qq51);(case side2 => exact HC0.out);rintro e w' ⟨rfl,⟨nd,rfl⟩⟩;refine ⟨_,rfl,?_⟩))
  go_ret
  exact ⟨qq81,qq73⟩
 ·replace c3:=Bool.eq_false_iff.mpr c3;subst c3;have H1 : ((spec_DrawPutUp.f k l0).bind fun bt400 => ((impl_PutUp.f k bt400.1 bt400.2).bind fun bt406 => (if bt406.2 = true then (laws_FnTents.l0 k l0 bt400.2 bt406.1 0 0) else (laws_FnTents.j3 k l0)))) = some r:=by rw [if_neg (show ¬ (false = true) by decide)] at H;exact H
  clear H;have H:=H1;clear H1;replace H:=bS.mp H;obtain ⟨⟨t400,t401⟩,A40,H⟩:=H;replace H : ((impl_PutUp.f k t400 t401).bind fun bt406 => (if bt406.2 = true then (laws_FnTents.l0 k l0 t401 bt406.1 0 0) else (laws_FnTents.j3 k l0))) = some r:=H;have A4:=am A40;clear A40;replace H:=bS.mp H;obtain ⟨⟨t406,t407⟩,A50,H⟩:=H;replace H : (if t407 = true then (laws_FnTents.l0 k l0 t401 t406 0 0) else (laws_FnTents.j3 k l0)) = some r:=H;have A5:=am A50;clear A50;have HC6:=am H;clear H
  go_enter Try.func5,Try.ntmps5
  go_upto_if 28 with (first | ((with_reducible refine gate_callee (f:=19) rfl ?_);refine goesL_ (some 16) rfl rfl Try.func19 (by kernel_rfl) rfl #[.slice A0 l0.length c0] rfl qq50 ?_;(with_reducible refine (laws_big.calls _ _ l0 false _ ?side1 ?side2 A2.out).mono ?_);(case side1 => exact qq51);(case side2 => exact HC0.out);rintro e w' ⟨rfl,⟨nd,rfl⟩⟩;refine ⟨_,rfl,?_⟩) | ((with_reducible refine gate_callee (f:=20) rfl ?_);refine goesL_ (some 19) rfl rfl Try.func20 (by kernel_rfl) rfl #[.slice A0 l0.length c0] rfl qq50 ?_;(with_reducible refine (spec_DrawPutUp.calls k _ _ l0 t400 t401 _ ?side1 ?side2 A4.out).mono ?_);(case side1 => exact qq51);(case side2 => exact HC0.out);rintro e w7 ⟨v402,v404,rfl,ho0,ho1,hb⟩;refine ⟨_,rfl,?_⟩;have HO403:=am qq131;have HO405:=am (Kd.R_lower ho1 (below_size qq73));replace HB:=am qq138;(try clear hb);(try clear hb2);(try clear hk);(try clear hi);(try clear ho0);(try clear ho1);obtain ⟨Ao8,co8,eo8⟩:=Kd.S_slice HO403.out;subst eo8;obtain ⟨Ao9,co9,eo9⟩:=Kd.R_slice HO405.out;subst eo9) | ((with_reducible refine gate_callee (f:=16) rfl ?_);refine goesL_ (some 25) rfl rfl Try.func16 (by kernel_rfl) rfl #[.slice Ao8 t400.length co8,.slice Ao9 t401.length co9] rfl qq50 ?_;(with_reducible refine (impl_PutUp.calls k _ _ t400 _ _ t401 t406 t407 _ ?side1 ?side2 ?side3 ?side4 A5.out).mono ?_);(case side1 => repeat (first | exact (Kd.S_reads' HO403.out).2.2 | (with_reducible refine cA ?_ _) | (with_reducible refine cN ?_ _) | (with_reducible refine cD ?_)));(case side2 => exact (Kd.S_reads' HO403.out).2.1);(case side3 => repeat (first | exact (Kd.R_reads' HO405.out).2.2 | (with_reducible refine cA ?_ _) | (with_reducible refine cN ?_ _) | (with_reducible refine cD ?_)));(case side4 => exact (Kd.R_reads' HO405.out).2.1);rintro e w10 ⟨v408,rfl,ho0,hb⟩;refine ⟨_,rfl,?_⟩;replace HO405:=am (Kd.R_below qq83 hb);have HO409:=am (Kd.S_lower (Kd.S_new' ho0 (Kd.S_lt qq67)) (below_size qq73));replace HO403:=am (Kd.S_elder' qq67 (Kd.S_base ho0) hb);replace HB:=am qq138;(try clear hb);(try clear hb2);(try clear hk);(try clear hi);(try clear ho0)))
  (try simp only [Act.put,sA,s0,s1])
  go_cut [] (fun wc => ∃ (kq : Nat),Aside0 (laws_FnTents.j3 kq l0 = some r) ∧ Aside0 (kq ≤ k) ∧ Aside0 (Below w.heap.size w wc))
  case first =>
   have H:=HC6.out;clear HC6
   by_cases c11 : t407 = true
   ·subst c11;have H1 : (laws_FnTents.l0 k l0 t401 t406 0 0) = some r:=by rw [if_pos rfl] at H;exact H
    clear H;have H:=H1;clear H1;have H':=am H;clear H;go_wp2
    go_loopg [7,8] k (fun kq v7 v8 w' => ∃ (x7_1 : Int) (x8_1 : Int),v7 = .int .i64 x7_1 ∧ v8 = .int .i64 x8_1 ∧ Aside0 (laws_FnTents.l0 kq l0 t401 t406 x7_1 x8_1 = some r) ∧ Aside0 (kq ≤ k) ∧ Aside0 (Kd.R k49 49 w' w.heap.size (fun _ => True) (.slice Ao9 t401.length co9) t401) ∧ Aside0 (Kd.S k45 45 w' w.heap.size (fun _ => True) v408 t406) ∧ Aside0 (Below w.heap.size w w'))
    case atStart => exact ⟨(0),(0),qq95,qq95,H',⟨Nat.le_refl _⟩,⟨qq83⟩,⟨by (with_reducible repeat (first | apply Kd.S_alloc | apply Kd.S_drewN | apply Kd.S_drew));exact Kd.S_mono HO409.out (fun _ hk => trivial)⟩,⟨qq73⟩⟩
    case round =>
     clear H'
     try clear c1
     try clear c2
     try clear p2
     try clear c3
     try clear c5
     try clear c11
     obtain ⟨x7_1,x8_1,rfl,rfl,HA,HK1,HO_4,HO_5,HB⟩:=hrel
     cases gk with
     | zero => exact absurd HA.out (by simp [laws_FnTents.l0])
     | succ k1 =>
      have H:=HA.out;clear HA;simp only [laws_FnTents.l0] at H
      by_cases c12 : x8_1 < (t406.length : Int)
      ·rw [if_pos c12] at H;have c12b0 : decide (x8_1 < (t406.length : Int)) = true:=decide_eq_true c12;clear c12;(first | rw [c12b0] | (simp only [i64_w,i32_w];rw [c12b0]) | skip)
       by_cases c13 : 0 ≤ x8_1
       ·rw [if_pos c13] at H;have c13b0 : decide (0 ≤ x8_1) = true:=decide_eq_true c13;clear c13;have H':=am H;clear H;obtain ⟨Ao14,co14,eo14⟩:=Kd.S_slice HO_5.out;subst eo14;have p410 : 0 ≤ (x8_1 : Int):=odt qq94;have q410 : x8_1 < (t406.length : Int):=odt qq94;obtain ⟨ad410,A410_2,c410_2,e410,hx410_0,hx410_1,hx410_2,hl410_2,hi410_2⟩:=at_T45 (Kd.S_reads' HO_5.out).2.2 x8_1 p410 q410
        cases e410
        obtain ⟨ce410,hce410,hMe410,hcc410⟩:=Kd.S_get HO_5.out z45 x8_1 p410 (by first | exact q410 | exact odt qq94 | (have e_:=(Kd.S_reads' HO_5.out).1;omega));obtain ⟨ve410_2,rfl,ge410_2⟩:=k45_openM hMe410;have hv410_2:=hcc410 2 _ rfl;rw [add_field _ _ 2 (by omega)] at hv410_2;replace hv410_2:=Option.some.inj (hv410_2.symm.trans hx410_2);rw [hv410_2] at ge410_2;have HL410_2:=am (show Kd.R (Kd.int .i64) 3 _ _ _ _ ((rd_T45 t406 x8_1).f2) from ge410_2);clear hv410_2 ge410_2;clear hcc410 hce410;have HR410_2:=am hi410_2;have HC410_2:=am hl410_2;clear hi410_2 hl410_2;replace p410:=eq_true p410;replace q410:=eq_true q410;go_wp2
        go_roundg k1
        case measure => have:=HK1.out;omega
        case rel => exact ⟨(wrap64 (x7_1 + ((rd_T45 t406 x8_1).f1))),(wrap64 (x8_1 + 1)),qq95,qq95,H',⟨qq107⟩,⟨qq87⟩,⟨qq76⟩,⟨qq73⟩⟩
       ·rw [if_neg c13] at H;exact absurd H (by simp)
      ·rw [if_neg c12] at H;have c12b0 : decide (x8_1 < (t406.length : Int)) = false:=decide_eq_false c12;clear c12;(first | rw [c12b0] | (simp only [i64_w,i32_w];rw [c12b0]) | skip);have HC15:=am H;clear H;obtain ⟨Ao16,co16,eo16⟩:=Kd.S_slice HO_5.out;subst eo16
       go_upto_region 11 with (fail)
       go_cut [53] (fun v53 wc => ∃ (kq : Nat) (x53_14 : Bool),v53 = .bool x53_14 ∧ Aside0 (laws_FnTents.j1 kq l0 t401 t406 x53_14 = some r) ∧ Aside0 (kq ≤ k1) ∧ Aside0 (Kd.R k49 49 wc w.heap.size (fun _ => True) (.slice Ao9 t401.length co9) t401) ∧ Aside0 (Kd.S k45 45 wc w.heap.size (fun _ => True) (.slice Ao16 t406.length co16) t406) ∧ Aside0 (Below w.heap.size w wc))
       case first =>
        have H:=HC15.out;clear HC15;replace H:=bS.mp H;obtain ⟨t411,A170,H⟩:=H;replace H : (if t411 = true then ((impl_BedsFree.f k1 t406).bind fun t412 => (laws_FnTents.j1 k1 l0 t401 t406 (t412 != (wrap64 (x7_1 - (t401.length : Int)))))) else (laws_FnTents.j1 k1 l0 t401 t406 true)) = some r:=H;have A17:=am A170;clear A170
        by_cases c18 : t411 = true
        ·subst c18;have H1 : ((impl_BedsFree.f k1 t406).bind fun t412 => (laws_FnTents.j1 k1 l0 t401 t406 (t412 != (wrap64 (x7_1 - (t401.length : Int)))))) = some r:=by rw [if_pos rfl] at H;exact H
         clear H;have H:=H1;clear H1;replace H:=bS.mp H;obtain ⟨t412,A190,H⟩:=H;replace H : (laws_FnTents.j1 k1 l0 t401 t406 (t412 != (wrap64 (x7_1 - (t401.length : Int))))) = some r:=H;have A19:=am A190;clear A190;have H':=am H;clear H;go_wp2_with (first | ((with_reducible refine gate_callee (f:=21) rfl ?_);refine goesL_ (some 43) rfl rfl Try.func21 (by kernel_rfl) rfl #[.slice Ao16 t406.length co16] rfl qq50 ?_;(with_reducible refine (impl_AreTents.calls k1 _ _ t406 true _ ?side1 ?side2 A17.out).mono ?_);(case side1 => exact qq33);(case side2 => exact qq102);rintro e w20 ⟨rfl,hb⟩;refine ⟨_,rfl,?_⟩;replace HO_4:=am (Kd.R_below qq87 hb);replace HO_5:=am (Kd.S_below qq76 hb);replace HB:=am qq138;(try clear hb);(try clear hb2);(try clear hk);(try clear hi)) | (go_at_call 22;(with_reducible refine (impl_BedsFree.calls k1 _ _ t406 t412 _ ?side1 ?side2 A19.out).mono ?_);(case side1 => exact qq33);(case side2 => exact qq102);rintro e w21 ⟨rfl,hb⟩;replace HO_4:=am (Kd.R_below qq87 hb);replace HO_5:=am (Kd.S_below qq76 hb);replace HB:=am qq138;(try clear hb);(try clear hb2);(try clear hk);(try clear hi)))
         go_meet
         case rel => exact ⟨_,((t412 != (wrap64 (x7_1 - (t401.length : Int))))),qq95,H',⟨qq93⟩,⟨qq87⟩,⟨qq76⟩,⟨qq73⟩⟩
        ·replace c18:=Bool.eq_false_iff.mpr c18;subst c18;have H1 : (laws_FnTents.j1 k1 l0 t401 t406 true) = some r:=by rw [if_neg (show ¬ (false = true) by decide)] at H;exact H
         clear H;have H:=H1;clear H1;have H':=am H;clear H;go_wp2_with (first | ((with_reducible refine gate_callee (f:=21) rfl ?_);refine goesL_ (some 43) rfl rfl Try.func21 (by kernel_rfl) rfl #[.slice Ao16 t406.length co16] rfl qq50 ?_;(with_reducible refine (impl_AreTents.calls k1 _ _ t406 false _ ?side1 ?side2 A17.out).mono ?_);(case side1 => exact qq33);(case side2 => exact qq102);rintro e w22 ⟨rfl,hb⟩;refine ⟨_,rfl,?_⟩;replace HO_4:=am (Kd.R_below qq87 hb);replace HO_5:=am (Kd.S_below qq76 hb);replace HB:=am qq138;(try clear hb);(try clear hb2);(try clear hk);(try clear hi)))
         go_meet
         case rel => exact ⟨_,(true),qq95,H',⟨qq93⟩,⟨qq87⟩,⟨qq76⟩,⟨qq73⟩⟩
       case rest =>
        clear HC15
        try clear c1
        try clear c2
        try clear p2
        try clear c3
        try clear c4
        try clear p4
        try clear q4
        try clear hx4
        try clear c5
        try clear p6
        try clear c11
        try clear c12
        try clear c12b0
        try clear c13
        try clear c13b0
        try clear c16
        try clear c18
        try clear c19
        try clear c20
        try clear c21
        try clear hx410_0
        try clear hx410_1
        try clear hx410_2
        try clear p2
        try clear p410
        try clear q410
        obtain ⟨kq,x53_14,rfl,HA,HJ14,HO_4,HO_5,HB⟩:=hcut
        cases kq with
        | zero => exact absurd HA.out (by simp [laws_FnTents.j1])
        | succ kj14 =>
         have H:=HA.out;clear HA;simp only [laws_FnTents.j1] at H
         by_cases c23 : x53_14 = true
         ·subst c23;have H1 : (some false) = some r:=by rw [if_pos rfl] at H;exact H
          clear H;have H:=H1;clear H1;obtain rfl:=Option.some.inj H;go_wp2
          go_ret
          exact ⟨qq81,qq73⟩
         ·replace c23:=Bool.eq_false_iff.mpr c23;subst c23;have H1 : (laws_FnTents.l1 kj14 l0 t401 t406 0) = some r:=by rw [if_neg (show ¬ (false = true) by decide)] at H;exact H
          clear H;have H:=H1;clear H1;have H':=am H;clear H;go_wp2
          go_loopg [9] kj14 (fun kq v9 w' => ∃ (x9_3 : Int),v9 = .int .i64 x9_3 ∧ Aside0 (laws_FnTents.l1 kq l0 t401 t406 x9_3 = some r) ∧ Aside0 (kq ≤ kj14) ∧ Aside0 (Kd.R k49 49 w' w.heap.size (fun _ => True) (.slice Ao9 t401.length co9) t401) ∧ Aside0 (Kd.S k45 45 w' w.heap.size (fun _ => True) (.slice Ao16 t406.length co16) t406) ∧ Aside0 (Below w.heap.size w w'))
          case atStart => exact ⟨(0),qq95,H',⟨Nat.le_refl _⟩,⟨qq87⟩,⟨qq76⟩,⟨qq73⟩⟩
          case round =>
           clear H'
           try clear c1
           try clear c2
           try clear p2
           try clear c3
           try clear c4
           try clear p4
           try clear q4
           try clear hx4
           try clear c5
           try clear p6
           try clear c11
           try clear c12
           try clear c12b0
           try clear c13
           try clear c13b0
           try clear c16
           try clear c18
           try clear c19
           try clear c20
           try clear c21
           try clear c23
           try clear hx410_0
           try clear hx410_1
           try clear hx410_2
           try clear p2
           try clear p4
           try clear p410
           try clear p6
           try clear q4
           try clear q410
           obtain ⟨x9_3,rfl,HA,HK3,HO_4,HO_5,HB⟩:=hrel
           cases gk with
           | zero => exact absurd HA.out (by simp [laws_FnTents.l1])
           | succ k3 =>
            have H:=HA.out;clear HA;simp only [laws_FnTents.l1] at H
            by_cases c24 : x9_3 < (t401.length : Int)
            ·rw [if_pos c24] at H;have c24b0 : decide (x9_3 < (t401.length : Int)) = true:=decide_eq_true c24;clear c24
             by_cases c25 : 0 ≤ x9_3
             ·rw [if_pos c25] at H;have c25b0 : decide (0 ≤ x9_3) = true:=decide_eq_true c25;clear c25;replace H:=bS.mp H;obtain ⟨t414,A260,H⟩:=H;replace H : (if t414 = 0 then (some false) else (laws_FnTents.l1 k3 l0 t401 t406 (wrap64 (x9_3 + 1)))) = some r:=H;have A26:=am A260;clear A260
              by_cases c27 : t414 = 0
              ·rw [if_pos c27] at H;have c27b0 : (t414 == 0) = true:=beq_iff_eq.mpr c27;have c27b1 : (t414 != 0) = false:=bne_eq_false_iff_eq.mpr c27;clear c27;obtain rfl:=Option.some.inj H;have p413 : 0 ≤ (x9_3 : Int):=odt qq94;have q413 : x9_3 < (t401.length : Int):=odt qq94;obtain ⟨ad413,e413,hx413_0,hx413_1,hx413_2,hx413_3⟩:=at_T49 (Kd.R_reads' HO_4.out).2.2 x9_3 p413 q413
               cases e413
               replace p413:=eq_true p413;replace q413:=eq_true q413;go_wp2_with (first | ((with_reducible refine gate_callee (f:=23) rfl ?_);refine goesL_ (some 66) rfl rfl Try.func23 (by kernel_rfl) rfl #[.slice Ao16 t406.length co16,.int .i64 ((rd_T49 t401 x9_3).f0)] rfl qq50 ?_;(with_reducible refine (impl_TentOf.calls k3 _ _ t406 ((rd_T49 t401 x9_3).f0) t414 _ ?side1 ?side2 A26.out).mono ?_);(case side1 => exact qq33);(case side2 => exact qq102);rintro e w28 ⟨rfl,hb⟩;refine ⟨_,rfl,?_⟩;replace HO_4:=am (Kd.R_below qq87 hb);replace HO_5:=am (Kd.S_below qq76 hb);replace HB:=am qq138;(try clear hb);(try clear hb2);(try clear hk);(try clear hi)))
               go_ret
               exact ⟨qq81,qq73⟩
              ·rw [if_neg c27] at H;have c27b0 : (t414 == 0) = false:=beq_eq_false_iff_ne.mpr c27;have c27b1 : (t414 != 0) = true:=bne_iff_ne.mpr c27;have H':=am H;clear H;have p413 : 0 ≤ (x9_3 : Int):=odt qq94;have q413 : x9_3 < (t401.length : Int):=odt qq94;obtain ⟨ad413,e413,hx413_0,hx413_1,hx413_2,hx413_3⟩:=at_T49 (Kd.R_reads' HO_4.out).2.2 x9_3 p413 q413
               cases e413
               replace p413:=eq_true p413;replace q413:=eq_true q413;go_wp2_with (first | ((with_reducible refine gate_callee (f:=23) rfl ?_);refine goesL_ (some 66) rfl rfl Try.func23 (by kernel_rfl) rfl #[.slice Ao16 t406.length co16,.int .i64 ((rd_T49 t401 x9_3).f0)] rfl qq50 ?_;(with_reducible refine (impl_TentOf.calls k3 _ _ t406 ((rd_T49 t401 x9_3).f0) t414 _ ?side1 ?side2 A26.out).mono ?_);(case side1 => exact qq33);(case side2 => exact qq102);rintro e w29 ⟨rfl,hb⟩;refine ⟨_,rfl,?_⟩;replace HO_4:=am (Kd.R_below qq87 hb);replace HO_5:=am (Kd.S_below qq76 hb);replace HB:=am qq138;(try clear hb);(try clear hb2);(try clear hk);(try clear hi)))
               go_roundg k3
               case measure => have:=HK1.out;have:=HJ14.out;have:=HK3.out;omega
               case rel => exact ⟨(wrap64 (x9_3 + 1)),qq95,H',⟨by have:=HK1.out;have:=HJ14.out;have:=HK3.out;omega⟩,⟨qq87⟩,⟨qq76⟩,⟨qq73⟩⟩
             ·rw [if_neg c25] at H;exact absurd H (by simp)
            ·rw [if_neg c24] at H;have c24b0 : decide (x9_3 < (t401.length : Int)) = false:=decide_eq_false c24;clear c24;have H':=am H;clear H;go_wp2
             go_meet
             case rel => exact ⟨_,H',⟨by have:=HK1.out;have:=HJ14.out;have:=HK3.out;first | omega | exact Nat.le_refl _⟩,⟨qq73⟩⟩
   ·replace c11:=Bool.eq_false_iff.mpr c11;subst c11;have H1 : (laws_FnTents.j3 k l0) = some r:=by rw [if_neg (show ¬ (false = true) by decide)] at H;exact H
    clear H;have H:=H1;clear H1;have H':=am H;clear H;go_wp2
    go_meet
    case rel => exact ⟨_,H',⟨qq98⟩,⟨qq73⟩⟩
  case rest =>
   clear HC6
   try clear c1
   try clear c2
   try clear p2
   try clear c3
   try clear c4
   try clear p4
   try clear q4
   try clear hx4
   try clear c5
   try clear p6
   try clear c11
   try clear c12
   try clear c12b0
   try clear c13
   try clear c13b0
   try clear c16
   try clear c18
   try clear c19
   try clear c20
   try clear c21
   try clear c23
   try clear c24
   try clear c24b0
   try clear c25
   try clear c25b0
   try clear c27
   try clear c27b0
   try clear c27b1
   try clear hx410_0
   try clear hx410_1
   try clear hx410_2
   try clear hx413_0
   try clear hx413_1
   try clear hx413_2
   try clear hx413_3
   try clear p2
   try clear p4
   try clear p410
   try clear p413
   try clear p6
   try clear q4
   try clear q410
   try clear q413
   obtain ⟨kq,HA,HJ5,HB⟩:=hcut
   cases kq with
   | zero => exact absurd HA.out (by simp [laws_FnTents.j3])
   | succ kj5 =>
    have H:=HA.out;clear HA;simp only [laws_FnTents.j3] at H;replace H:=bS.mp H;obtain ⟨⟨t415,t416,t417⟩,A300,H⟩:=H;replace H : ((impl_MoveTo.f kj5 t415 t416 t417).bind fun bt420 => (if (bt420.1.length : Int) = (t415.length : Int) then (if bt420.2 = true then ((impl_AreTents.f kj5 bt420.1).bind fun t424 => (if t424 = true then ((impl_TentOf.f kj5 bt420.1 t416).bind fun t425 => (if t425 = t417 then ((impl_BedsFree.f kj5 bt420.1).bind fun t426 => ((impl_BedsFree.f kj5 t415).bind fun t427 => (if t426 = t427 then (some true) else (some false)))) else (some false))) else (some false))) else ((impl_TentOf.f kj5 bt420.1 t416).bind fun t428 => ((impl_TentOf.f kj5 t415 t416).bind fun t429 => (some (t428 == t429))))) else (some false))) = some r:=H;have A30:=am A300;clear A300;replace H:=bS.mp H;obtain ⟨⟨t420,t421⟩,A310,H⟩:=H;replace H : (if (t420.length : Int) = (t415.length : Int) then (if t421 = true then ((impl_AreTents.f kj5 t420).bind fun t424 => (if t424 = true then ((impl_TentOf.f kj5 t420 t416).bind fun t425 => (if t425 = t417 then ((impl_BedsFree.f kj5 t420).bind fun t426 => ((impl_BedsFree.f kj5 t415).bind fun t427 => (if t426 = t427 then (some true) else (some false)))) else (some false))) else (some false))) else ((impl_TentOf.f kj5 t420 t416).bind fun t428 => ((impl_TentOf.f kj5 t415 t416).bind fun t429 => (some (t428 == t429))))) else (some false)) = some r:=H;have A31:=am A310;clear A310
    by_cases c32 : (t420.length : Int) = (t415.length : Int)
    ·rw [if_pos c32] at H;have c32b0 : ((t420.length : Int) == (t415.length : Int)) = true:=beq_iff_eq.mpr c32;have c32b1 : ((t420.length : Int) != (t415.length : Int)) = false:=bne_eq_false_iff_eq.mpr c32;have c32b2 : (t420.length == t415.length) = true:=by first | simpa using c32 | (simp at c32 ⊢;omega)
     clear c32
     by_cases c33 : t421 = true
     ·subst c33;have H1 : ((impl_AreTents.f kj5 t420).bind fun t424 => (if t424 = true then ((impl_TentOf.f kj5 t420 t416).bind fun t425 => (if t425 = t417 then ((impl_BedsFree.f kj5 t420).bind fun t426 => ((impl_BedsFree.f kj5 t415).bind fun t427 => (if t426 = t427 then (some true) else (some false)))) else (some false))) else (some false))) = some r:=by rw [if_pos rfl] at H;exact H
      clear H;have H:=H1;clear H1;replace H:=bS.mp H;obtain ⟨t424,A340,H⟩:=H;replace H : (if t424 = true then ((impl_TentOf.f kj5 t420 t416).bind fun t425 => (if t425 = t417 then ((impl_BedsFree.f kj5 t420).bind fun t426 => ((impl_BedsFree.f kj5 t415).bind fun t427 => (if t426 = t427 then (some true) else (some false)))) else (some false))) else (some false)) = some r:=H;have A34:=am A340;clear A340
      by_cases c35 : t424 = true
      ·subst c35;have H1 : ((impl_TentOf.f kj5 t420 t416).bind fun t425 => (if t425 = t417 then ((impl_BedsFree.f kj5 t420).bind fun t426 => ((impl_BedsFree.f kj5 t415).bind fun t427 => (if t426 = t427 then (some true) else (some false)))) else (some false))) = some r:=by rw [if_pos rfl] at H;exact H
       clear H;have H:=H1;clear H1;replace H:=bS.mp H;obtain ⟨t425,A360,H⟩:=H;replace H : (if t425 = t417 then ((impl_BedsFree.f kj5 t420).bind fun t426 => ((impl_BedsFree.f kj5 t415).bind fun t427 => (if t426 = t427 then (some true) else (some false)))) else (some false)) = some r:=H;have A36:=am A360;clear A360
       by_cases c37 : t425 = t417
       ·rw [if_pos c37] at H;have c37b0 : (t425 == t417) = true:=beq_iff_eq.mpr c37;have c37b1 : (t425 != t417) = false:=bne_eq_false_iff_eq.mpr c37;clear c37;replace H:=bS.mp H;obtain ⟨t426,A380,H⟩:=H;replace H : ((impl_BedsFree.f kj5 t415).bind fun t427 => (if t426 = t427 then (some true) else (some false))) = some r:=H;have A38:=am A380;clear A380;replace H:=bS.mp H;obtain ⟨t427,A390,H⟩:=H;replace H : (if t426 = t427 then (some true) else (some false)) = some r:=H;have A39:=am A390;clear A390
        by_cases c40 : t426 = t427
        ·rw [if_pos c40] at H;have c40b0 : (t426 == t427) = true:=beq_iff_eq.mpr c40;have c40b1 : (t426 != t427) = false:=bne_eq_false_iff_eq.mpr c40;clear c40;obtain rfl:=Option.some.inj H;go_wp2_with (first | ((with_reducible refine gate_callee (f:=24) rfl ?_);refine goesL_ (some 70) rfl rfl Try.func24 (by kernel_rfl) rfl #[.slice A0 l0.length c0] rfl qq50 ?_;(with_reducible refine (spec_DrawMoveTo.calls kj5 _ _ l0 t415 t416 t417 _ ?side1 ?side2 A30.out).mono ?_);(case side1 => exact qq29);(case side2 => exact HC0.out);rintro e w41 ⟨v418,rfl,ho0,hb⟩;refine ⟨_,rfl,?_⟩;have HO419:=am qq131;replace HB:=am qq138;(try clear hb);(try clear hb2);(try clear hk);(try clear hi);(try clear ho0);obtain ⟨Ao42,co42,eo42⟩:=Kd.S_slice HO419.out;subst eo42) | ((with_reducible refine gate_callee (f:=9) rfl ?_);refine goesL_ (some 78) rfl rfl Try.func9 (by kernel_rfl) rfl #[.slice Ao42 t415.length co42,.int .i64 t416,.int .i64 t417] rfl qq50 ?_;(with_reducible refine (impl_MoveTo.calls kj5 _ _ t415 t416 t417 t420 true _ ?side1 ?side2 A31.out).mono ?_);(case side1 => exact qq26);(case side2 => exact qq100);rintro e w43 ⟨v422,rfl,ho0,hb⟩;refine ⟨_,rfl,?_⟩;have HO423:=am qq125;replace HO419:=am qq130;replace HB:=am qq138;(try clear hb);(try clear hb2);(try clear hk);(try clear hi);(try clear ho0);obtain ⟨Ao44,co44,eo44⟩:=Kd.S_slice HO423.out;subst eo44) | (go_at_call 21;(with_reducible refine (impl_AreTents.calls kj5 _ _ t420 true _ ?side1 ?side2 A34.out).mono ?_);(case side1 => exact qq25);(case side2 => exact qq99);rintro e w45 ⟨rfl,hb⟩;replace HO419:=am qq147;replace HO423:=am qq148;replace HB:=am qq138;(try clear hb);(try clear hb2);(try clear hk);(try clear hi)) | (go_at_call 23;(with_reducible refine (impl_TentOf.calls kj5 _ _ t420 t416 t425 _ ?side1 ?side2 A36.out).mono ?_);(case side1 => exact qq25);(case side2 => exact qq99);rintro e w46 ⟨rfl,hb⟩;replace HO419:=am qq147;replace HO423:=am qq148;replace HB:=am qq138;(try clear hb);(try clear hb2);(try clear hk);(try clear hi)) | (go_at_call 22;(with_reducible refine (impl_BedsFree.calls kj5 _ _ t420 t426 _ ?side1 ?side2 A38.out).mono ?_);(case side1 => exact qq25);(case side2 => exact qq99);rintro e w47 ⟨rfl,hb⟩;replace HO419:=am qq147;replace HO423:=am qq148;replace HB:=am qq138;(try clear hb);(try clear hb2);(try clear hk);(try clear hi)) | (go_at_call 22;(with_reducible refine (impl_BedsFree.calls kj5 _ _ t415 t427 _ ?side1 ?side2 A39.out).mono ?_);(case side1 => exact qq26);(case side2 => exact qq100);rintro e w48 ⟨rfl,hb⟩;replace HO419:=am qq147;replace HO423:=am qq148;replace HB:=am qq138;(try clear hb);(try clear hb2);(try clear hk);(try clear hi)))
         go_ret
         exact ⟨qq81,qq73⟩
        ·rw [if_neg c40] at H;have c40b0 : (t426 == t427) = false:=beq_eq_false_iff_ne.mpr c40;have c40b1 : (t426 != t427) = true:=bne_iff_ne.mpr c40;obtain rfl:=Option.some.inj H;go_wp2_with (first | ((with_reducible refine gate_callee (f:=24) rfl ?_);refine goesL_ (some 70) rfl rfl Try.func24 (by kernel_rfl) rfl #[.slice A0 l0.length c0] rfl qq50 ?_;(with_reducible refine (spec_DrawMoveTo.calls kj5 _ _ l0 t415 t416 t417 _ ?side1 ?side2 A30.out).mono ?_);(case side1 => exact qq29);(case side2 => exact HC0.out);rintro e w49 ⟨v418,rfl,ho0,hb⟩;refine ⟨_,rfl,?_⟩;have HO419:=am qq131;replace HB:=am qq138;(try clear hb);(try clear hb2);(try clear hk);(try clear hi);(try clear ho0);obtain ⟨Ao50,co50,eo50⟩:=Kd.S_slice HO419.out;subst eo50) | ((with_reducible refine gate_callee (f:=9) rfl ?_);refine goesL_ (some 78) rfl rfl Try.func9 (by kernel_rfl) rfl #[.slice Ao50 t415.length co50,.int .i64 t416,.int .i64 t417] rfl qq50 ?_;(with_reducible refine (impl_MoveTo.calls kj5 _ _ t415 t416 t417 t420 true _ ?side1 ?side2 A31.out).mono ?_);(case side1 => exact qq26);(case side2 => exact qq100);rintro e w51 ⟨v422,rfl,ho0,hb⟩;refine ⟨_,rfl,?_⟩;have HO423:=am qq125;replace HO419:=am qq130;replace HB:=am qq138;(try clear hb);(try clear hb2);(try clear hk);(try clear hi);(try clear ho0);obtain ⟨Ao52,co52,eo52⟩:=Kd.S_slice HO423.out;subst eo52) | (go_at_call 21;(with_reducible refine (impl_AreTents.calls kj5 _ _ t420 true _ ?side1 ?side2 A34.out).mono ?_);(case side1 => exact qq25);(case side2 => exact qq99);rintro e w53 ⟨rfl,hb⟩;replace HO419:=am qq147;replace HO423:=am qq148;replace HB:=am qq138;(try clear hb);(try clear hb2);(try clear hk);(try clear hi)) | (go_at_call 23;(with_reducible refine (impl_TentOf.calls kj5 _ _ t420 t416 t425 _ ?side1 ?side2 A36.out).mono ?_);(case side1 => exact qq25);(case side2 => exact qq99);rintro e w54 ⟨rfl,hb⟩;replace HO419:=am qq147;replace HO423:=am qq148;replace HB:=am qq138;(try clear hb);(try clear hb2);(try clear hk);(try clear hi)) | (go_at_call 22;(with_reducible refine (impl_BedsFree.calls kj5 _ _ t420 t426 _ ?side1 ?side2 A38.out).mono ?_);(case side1 => exact qq25);(case side2 => exact qq99);rintro e w55 ⟨rfl,hb⟩;replace HO419:=am qq147;replace HO423:=am qq148;replace HB:=am qq138;(try clear hb);(try clear hb2);(try clear hk);(try clear hi)) | (go_at_call 22;(with_reducible refine (impl_BedsFree.calls kj5 _ _ t415 t427 _ ?side1 ?side2 A39.out).mono ?_);(case side1 => exact qq26);(case side2 => exact qq100);rintro e w56 ⟨rfl,hb⟩;replace HO419:=am qq147;replace HO423:=am qq148;replace HB:=am qq138;(try clear hb);(try clear hb2);(try clear hk);(try clear hi)))
         go_ret
         exact ⟨qq81,qq73⟩
       ·rw [if_neg c37] at H;have c37b0 : (t425 == t417) = false:=beq_eq_false_iff_ne.mpr c37;have c37b1 : (t425 != t417) = true:=bne_iff_ne.mpr c37;obtain rfl:=Option.some.inj H;go_wp2_with (first | ((with_reducible refine gate_callee (f:=24) rfl ?_);refine goesL_ (some 70) rfl rfl Try.func24 (by kernel_rfl) rfl #[.slice A0 l0.length c0] rfl qq50 ?_;(with_reducible refine (spec_DrawMoveTo.calls kj5 _ _ l0 t415 t416 t417 _ ?side1 ?side2 A30.out).mono ?_);(case side1 => exact qq29);(case side2 => exact HC0.out);rintro e w57 ⟨v418,rfl,ho0,hb⟩;refine ⟨_,rfl,?_⟩;have HO419:=am qq131;replace HB:=am qq138;(try clear hb);(try clear hb2);(try clear hk);(try clear hi);(try clear ho0);obtain ⟨Ao58,co58,eo58⟩:=Kd.S_slice HO419.out;subst eo58) | ((with_reducible refine gate_callee (f:=9) rfl ?_);refine goesL_ (some 78) rfl rfl Try.func9 (by kernel_rfl) rfl #[.slice Ao58 t415.length co58,.int .i64 t416,.int .i64 t417] rfl qq50 ?_;(with_reducible refine (impl_MoveTo.calls kj5 _ _ t415 t416 t417 t420 true _ ?side1 ?side2 A31.out).mono ?_);(case side1 => exact qq26);(case side2 => exact qq100);rintro e w59 ⟨v422,rfl,ho0,hb⟩;refine ⟨_,rfl,?_⟩;have HO423:=am qq125;replace HO419:=am qq130;replace HB:=am qq138;(try clear hb);(try clear hb2);(try clear hk);(try clear hi);(try clear ho0);obtain ⟨Ao60,co60,eo60⟩:=Kd.S_slice HO423.out;subst eo60) | (go_at_call 21;(with_reducible refine (impl_AreTents.calls kj5 _ _ t420 true _ ?side1 ?side2 A34.out).mono ?_);(case side1 => exact qq25);(case side2 => exact qq99);rintro e w61 ⟨rfl,hb⟩;replace HO419:=am qq147;replace HO423:=am qq148;replace HB:=am qq138;(try clear hb);(try clear hb2);(try clear hk);(try clear hi)) | (go_at_call 23;(with_reducible refine (impl_TentOf.calls kj5 _ _ t420 t416 t425 _ ?side1 ?side2 A36.out).mono ?_);(case side1 => exact qq25);(case side2 => exact qq99);rintro e w62 ⟨rfl,hb⟩;replace HO419:=am qq147;replace HO423:=am qq148;replace HB:=am qq138;(try clear hb);(try clear hb2);(try clear hk);(try clear hi)))
        go_ret
        exact ⟨qq81,qq73⟩
      ·replace c35:=Bool.eq_false_iff.mpr c35;subst c35;have H1 : (some false) = some r:=by rw [if_neg (show ¬ (false = true) by decide)] at H;exact H
       clear H;have H:=H1;clear H1;obtain rfl:=Option.some.inj H;go_wp2_with (first | ((with_reducible refine gate_callee (f:=24) rfl ?_);refine goesL_ (some 70) rfl rfl Try.func24 (by kernel_rfl) rfl #[.slice A0 l0.length c0] rfl qq50 ?_;(with_reducible refine (spec_DrawMoveTo.calls kj5 _ _ l0 t415 t416 t417 _ ?side1 ?side2 A30.out).mono ?_);(case side1 => exact qq29);(case side2 => exact HC0.out);rintro e w63 ⟨v418,rfl,ho0,hb⟩;refine ⟨_,rfl,?_⟩;have HO419:=am qq131;replace HB:=am qq138;(try clear hb);(try clear hb2);(try clear hk);(try clear hi);(try clear ho0);obtain ⟨Ao64,co64,eo64⟩:=Kd.S_slice HO419.out;subst eo64) | ((with_reducible refine gate_callee (f:=9) rfl ?_);refine goesL_ (some 78) rfl rfl Try.func9 (by kernel_rfl) rfl #[.slice Ao64 t415.length co64,.int .i64 t416,.int .i64 t417] rfl qq50 ?_;(with_reducible refine (impl_MoveTo.calls kj5 _ _ t415 t416 t417 t420 true _ ?side1 ?side2 A31.out).mono ?_);(case side1 => exact qq26);(case side2 => exact qq100);rintro e w65 ⟨v422,rfl,ho0,hb⟩;refine ⟨_,rfl,?_⟩;have HO423:=am qq125;replace HO419:=am qq130;replace HB:=am qq138;(try clear hb);(try clear hb2);(try clear hk);(try clear hi);(try clear ho0);obtain ⟨Ao66,co66,eo66⟩:=Kd.S_slice HO423.out;subst eo66) | (go_at_call 21;(with_reducible refine (impl_AreTents.calls kj5 _ _ t420 false _ ?side1 ?side2 A34.out).mono ?_);(case side1 => exact qq25);(case side2 => exact qq99);rintro e w67 ⟨rfl,hb⟩;replace HO419:=am qq147;replace HO423:=am qq148;replace HB:=am qq138;(try clear hb);(try clear hb2);(try clear hk);(try clear hi)))
       go_ret
       exact ⟨qq81,qq73⟩
     ·replace c33:=Bool.eq_false_iff.mpr c33;subst c33;have H1 : ((impl_TentOf.f kj5 t420 t416).bind fun t428 => ((impl_TentOf.f kj5 t415 t416).bind fun t429 => (some (t428 == t429)))) = some r:=by rw [if_neg (show ¬ (false = true) by decide)] at H;exact H
      clear H;have H:=H1;clear H1;replace H:=bS.mp H;obtain ⟨t428,A680,H⟩:=H;replace H : ((impl_TentOf.f kj5 t415 t416).bind fun t429 => (some (t428 == t429))) = some r:=H;have A68:=am A680;clear A680;replace H:=bS.mp H;obtain ⟨t429,A690,H⟩:=H;replace H : (some (t428 == t429)) = some r:=H;have A69:=am A690;clear A690;obtain rfl:=Option.some.inj H;go_wp2_with (first | ((with_reducible refine gate_callee (f:=24) rfl ?_);refine goesL_ (some 70) rfl rfl Try.func24 (by kernel_rfl) rfl #[.slice A0 l0.length c0] rfl qq50 ?_;(with_reducible refine (spec_DrawMoveTo.calls kj5 _ _ l0 t415 t416 t417 _ ?side1 ?side2 A30.out).mono ?_);(case side1 => exact qq29);(case side2 => exact HC0.out);rintro e w70 ⟨v418,rfl,ho0,hb⟩;refine ⟨_,rfl,?_⟩;have HO419:=am qq131;replace HB:=am qq138;(try clear hb);(try clear hb2);(try clear hk);(try clear hi);(try clear ho0);obtain ⟨Ao71,co71,eo71⟩:=Kd.S_slice HO419.out;subst eo71) | ((with_reducible refine gate_callee (f:=9) rfl ?_);refine goesL_ (some 78) rfl rfl Try.func9 (by kernel_rfl) rfl #[.slice Ao71 t415.length co71,.int .i64 t416,.int .i64 t417] rfl qq50 ?_;(with_reducible refine (impl_MoveTo.calls kj5 _ _ t415 t416 t417 t420 false _ ?side1 ?side2 A31.out).mono ?_);(case side1 => exact qq26);(case side2 => exact qq100);rintro e w72 ⟨v422,rfl,ho0,hb⟩;refine ⟨_,rfl,?_⟩;have HO423:=am qq125;replace HO419:=am qq130;replace HB:=am qq138;(try clear hb);(try clear hb2);(try clear hk);(try clear hi);(try clear ho0);obtain ⟨Ao73,co73,eo73⟩:=Kd.S_slice HO423.out;subst eo73) | (go_at_call 23;(with_reducible refine (impl_TentOf.calls kj5 _ _ t420 t416 t428 _ ?side1 ?side2 A68.out).mono ?_);(case side1 => exact qq25);(case side2 => exact qq99);rintro e w74 ⟨rfl,hb⟩;replace HO419:=am qq147;replace HO423:=am qq148;replace HB:=am qq138;(try clear hb);(try clear hb2);(try clear hk);(try clear hi)) | (go_at_call 23;(with_reducible refine (impl_TentOf.calls kj5 _ _ t415 t416 t429 _ ?side1 ?side2 A69.out).mono ?_);(case side1 => exact qq26);(case side2 => exact qq100);rintro e w75 ⟨rfl,hb⟩;replace HO419:=am qq147;replace HO423:=am qq148;replace HB:=am qq138;(try clear hb);(try clear hb2);(try clear hk);(try clear hi)))
      go_ret
      exact ⟨qq81,qq73⟩
    ·rw [if_neg c32] at H;have c32b0 : ((t420.length : Int) == (t415.length : Int)) = false:=beq_eq_false_iff_ne.mpr c32;have c32b1 : ((t420.length : Int) != (t415.length : Int)) = true:=bne_iff_ne.mpr c32;have c32b2 : (t420.length == t415.length) = false:=by first | simpa using c32 | (simp at c32 ⊢;omega)
     obtain rfl:=Option.some.inj H;go_wp2_with (first | ((with_reducible refine gate_callee (f:=24) rfl ?_);refine goesL_ (some 70) rfl rfl Try.func24 (by kernel_rfl) rfl #[.slice A0 l0.length c0] rfl qq50 ?_;(with_reducible refine (spec_DrawMoveTo.calls kj5 _ _ l0 t415 t416 t417 _ ?side1 ?side2 A30.out).mono ?_);(case side1 => exact qq29);(case side2 => exact HC0.out);rintro e w76 ⟨v418,rfl,ho0,hb⟩;refine ⟨_,rfl,?_⟩;have HO419:=am qq131;replace HB:=am qq138;(try clear hb);(try clear hb2);(try clear hk);(try clear hi);(try clear ho0);obtain ⟨Ao77,co77,eo77⟩:=Kd.S_slice HO419.out;subst eo77) | ((with_reducible refine gate_callee (f:=9) rfl ?_);refine goesL_ (some 78) rfl rfl Try.func9 (by kernel_rfl) rfl #[.slice Ao77 t415.length co77,.int .i64 t416,.int .i64 t417] rfl qq50 ?_;(with_reducible refine (impl_MoveTo.calls kj5 _ _ t415 t416 t417 t420 t421 _ ?side1 ?side2 A31.out).mono ?_);(case side1 => exact qq26);(case side2 => exact qq100);rintro e w78 ⟨v422,rfl,ho0,hb⟩;refine ⟨_,rfl,?_⟩;have HO423:=am qq125;replace HO419:=am qq130;replace HB:=am qq138;(try clear hb);(try clear hb2);(try clear hk);(try clear hi);(try clear ho0);obtain ⟨Ao79,co79,eo79⟩:=Kd.S_slice HO423.out;subst eo79))
     go_ret
     exact ⟨qq81,qq73⟩

/-- THE ONE PURE STATEMENT of laws_FnTents: yours. -/
def laws_FnTents.Pure : Prop := ∀ (l0 : List Int), l0.length ≤ maxLen → l0.length * 1 ≤ 140737488351232 → (∀ x ∈ l0, (Lit.int .u8 x).wf = true) → ∃ k, laws_FnTents.f k l0 = some true
theorem laws_FnTents.walk (P : laws_FnTents.Pure) (a0 : Option Addr) (len0 cap0 : Nat) (z0 : List Int) (w : World) (w0 : (a0 = none ∧ len0 = 0 ∧ cap0 = 0 ∧ z0 = []) ∨ ∃ x, a0 = some x ∧ len0 ≤ cap0 ∧ cap0 ≤ maxLen ∧ z0.length = cap0 ∧ (∀ i, i < z0.length → w.cell? (x.add i) = some (.int .u8 (z0.getD i 0))) ∧ ∀ n ∈ z0, (Lit.int .u8 n).wf = true) (y0 : len0 * 1 ≤ 140737488351232) :
  Calls Try.prog 5 #[.slice a0 len0 cap0] w fun e w' => e = .returned (.bool true) ∧ Below w.heap.size w w':=by
 obtain ⟨l0,rfl,hr0,hm0,hw0,hc0⟩:=ReadsInt.ofRowC w0
 obtain ⟨k,h⟩:=P l0 hm0 y0 hw0
 refine (laws_FnTents.calls k _ _ l0 true w (Kd.C_of_reads (d:=(0 : Int)) (h1:=fun _ => rfl) hr0) hc0 h).mono ?_
 rintro e w' ⟨rfl,hd⟩
 exact ⟨rfl,hd⟩

end Go.Proofs.Ytnghncedinngoaa.PFnTents
