/- Contracts of functions that the law FnExactPlanFood reaches, for its row: lines that the kit's printer wrote for this claim, set shorter by a program of this session (own.py), and what fell in Lean proved anew. Lean checks them. -/
import Derived.Test.YtcbkknpmeknppaaSFnExactPlanFoodx0
import Derived.Test.YtcbkknpmeknppaaSFnExactPlanFoodx15
import Derived.Test.YtcbkknpmeknppaaSFnExactPlanFoodx16
import Derived.Test.YtcbkknpmeknppaaSFnExactPlanFoodx17
namespace Go.Proofs.Ytcbkknpmeknppaa.PFnExactPlanFood
open Go.RowKit Go.Proofs.YtcbkknpmeknppaaW.PrintWords Go.Proofs.YtcbkknpmeknppaaW.PrintLast Go.Proofs.YtcbkknpmeknppaaW.PrintMore
attribute [local go_sem] max2_int min2_int max_two min_two max_three min_three max_four min_four   -- for this text's walks alone
set_option linter.unusedVariables false
set_option linter.unusedSimpArgs false

/-! ### spec_NeedOf: function 114 -/
def spec_NeedOf.l0 : Nat → List (S112) → Int → Int → Option (Int)
 | 0,_,_,_ => none
 | k + 1,x0,x3,x4 => if x4 < (x0.length : Int) then ((spec_AreCrew.f k x0).bind fun t483 => (if t483 = true then (if 0 ≤ x4 then (spec_NeedOf.l0 k x0 (wrap64 (x3 + ((rd_T112 x0 x4).f2))) (wrap64 (x4 + 1))) else (none)) else (some x3))) else (some x3)
def spec_NeedOf.f (k : Nat) (l0 : List (S112)) : Option (Int) := spec_NeedOf.l0 k l0 0 0
set_option maxHeartbeats 8000000 in
set_option maxRecDepth 100000 in
theorem spec_NeedOf.calls (k : Nat) (A0 : Option Addr) (c0 : Nat) (l0 : List (S112)) (r : Int) (w : World) (hr0 : Kd.C k112 w A0 l0.length l0) (hc0 : l0.length ≤ c0) (h : spec_NeedOf.f k l0 = some r) :
  Calls Try.prog 114 #[.slice A0 l0.length c0] w fun e w' => e = .returned (.int .i64 r) ∧ Below w.heap.size w w':=by
 have HR0:=am hr0;have HC0:=am hc0;clear hr0 hc0;have HB:=am qq465;have H : (spec_NeedOf.l0 k l0 0 0) = some r:=h;clear h;have H':=am H;clear H
 go_enter Try.func114,Try.ntmps114
 go_wp2
 go_loopg [3,4] k (fun kq v3 v4 w' => ∃ (x3_1 : Int) (x4_1 : Int),v3 = .int .i64 x3_1 ∧ v4 = .int .i64 x4_1 ∧ Aside0 (spec_NeedOf.l0 kq l0 x3_1 x4_1 = some r) ∧ Aside0 (kq ≤ k) ∧ Aside0 (Below w.heap.size w w'))
 case atStart => exact ⟨(0),(0),qq311,qq311,H',⟨Nat.le_refl _⟩,⟨qq208⟩⟩
 case round =>
  clear H'
  try clear c1
  obtain ⟨x3_1,x4_1,rfl,rfl,HA,HK1,HB⟩:=hrel
  cases gk with
  | zero => exact absurd HA.out (by simp [spec_NeedOf.l0])
  | succ k1 =>
   have H:=HA.out;clear HA;simp only [spec_NeedOf.l0] at H
   by_cases c2 : x4_1 < (l0.length : Int)
   ·rw [if_pos c2] at H;have c2b0 : decide (x4_1 < (l0.length : Int)) = true:=decide_eq_true c2;clear c2;replace H:=bS.mp H;obtain ⟨t483,A30,H⟩:=H;(try dsimp only at H);have A3:=am A30;clear A30
    by_cases c4 : t483 = true
    ·subst c4;rw [if_pos rfl] at H
     by_cases c5 : 0 ≤ x4_1
     ·rw [if_pos c5] at H;have c5b0 : decide (0 ≤ x4_1) = true:=decide_eq_true c5;clear c5;have H':=am H;clear H;go_wp2_with (first | (go_at_call 112;(with_reducible refine (spec_AreCrew.calls k1 _ _ l0 true _ ?side1 ?side2 A3.out).mono ?_);(case side1 => exact qq132);(case side2 => exact HC0.out);rintro e w6 ⟨rfl,hb⟩;replace HB:=am qq488;(try clear hb);(try clear hb2);(try clear hk);(try clear hi);have p484 : 0 ≤ (x4_1 : Int):=odt qq309;have q484 : x4_1 < (l0.length : Int):=odt qq309;obtain ⟨ad484,e484,hx484_0,hx484_1,hx484_2,hx484_3⟩:=at_T112 HR0.out x4_1 p484 q484;cases e484;replace hx484_0:=(ct HB.out hx484_0 :);replace hx484_1:=(ct HB.out hx484_1 :);replace hx484_2:=(ct HB.out hx484_2 :);replace hx484_3:=(ct HB.out hx484_3 :);replace p484:=eq_true p484;replace q484:=eq_true q484))
      go_roundg k1
      case measure => have:=HK1.out;omega
      case rel => exact ⟨(wrap64 (x3_1 + ((rd_T112 l0 x4_1).f2))),(wrap64 (x4_1 + 1)),qq311,qq311,H',⟨qq331⟩,⟨qq208⟩⟩
     ·rw [if_neg c5] at H;exact absurd H (by simp)
    ·replace c4:=Bool.eq_false_iff.mpr c4;subst c4;have H1 : (some x3_1) = some r:=by rw [if_neg (show ¬ (false = true) by decide)] at H;exact H
     clear H;have H:=H1;clear H1;obtain rfl:=Option.some.inj H;go_wp2_with (first | (go_at_call 112;(with_reducible refine (spec_AreCrew.calls k1 _ _ l0 false _ ?side1 ?side2 A3.out).mono ?_);(case side1 => exact qq132);(case side2 => exact HC0.out);rintro e w7 ⟨rfl,hb⟩;replace HB:=am qq488;(try clear hb);(try clear hb2);(try clear hk);(try clear hi)))
     go_ret
     exact ⟨qq263,qq208⟩
   ·rw [if_neg c2] at H;have c2b0 : decide (x4_1 < (l0.length : Int)) = false:=decide_eq_false c2;clear c2;obtain rfl:=Option.some.inj H;go_wp2
    go_ret
    exact ⟨qq263,qq208⟩

/-! ### spec_PlanFood: function 68 -/
def spec_PlanFood.j0 : Nat → Int → Bool → Int → Int → Int → Int → List (S112) → List Bool → Option (Int)
 | 0,_,_,_,_,_,_,_,_ => none
 | k + 1,x11,x24,x487000,x487001,x488000,x488001,x488002,x488003 => if x24 = true then (some (-1)) else ((spec_WorstDays.f k x487000 x487001 x488003 x11).bind fun t490 => (if t490 < 0 then (some (-1)) else ((spec_NeedOf.f k x488002).bind fun t491 => (some (wrap64 (t491 * t490))))))
def spec_PlanFood.f (k : Nat) (a0_0 : Int) (a0_1 : Int) (l0_2 : List Int) (a1 : Int) (l2 : List (S76)) (a3_0 : Int) (a3_1 : Int) (a4_0 : Int) (a4_1 : Int) (l4_2 : List (S112)) (l4_3 : List Bool) : Option (Int) := (spec_PlanDays.f k a0_0 a0_1 l0_2 a1 l2).bind fun t488 => (if t488 < 0 then (spec_PlanFood.j0 k t488 true a3_0 a3_1 a4_0 a4_1 l4_2 l4_3) else ((spec_AreCrew.f k l4_2).bind fun t489 => (spec_PlanFood.j0 k t488 (!t489) a3_0 a3_1 a4_0 a4_1 l4_2 l4_3)))
set_option maxHeartbeats 8000000 in
set_option maxRecDepth 100000 in
theorem spec_PlanFood.calls (k : Nat) (a0_0 : Int) (a0_1 : Int) (A0_2 : Option Addr) (c0_2 : Nat) (l0_2 : List Int) (a1 : Int) (A2 : Option Addr) (c2 : Nat) (l2 : List (S76)) (a3_0 : Int) (a3_1 : Int) (a4_0 : Int) (a4_1 : Int) (A4_2 : Option Addr) (c4_2 : Nat) (l4_2 : List (S112)) (A4_3 : Option Addr) (c4_3 : Nat) (l4_3 : List Bool) (r : Int) (w : World) (hr0_2 : Kd.C (Kd.int .i64) w A0_2 l0_2.length l0_2) (hc0_2 : l0_2.length ≤ c0_2) (hr2 : Kd.C k76 w A2 l2.length l2) (hc2 : l2.length ≤ c2) (hr4_2 : Kd.C k112 w A4_2 l4_2.length l4_2) (hc4_2 : l4_2.length ≤ c4_2) (hr4_3 : Kd.C Kd.bool w A4_3 l4_3.length l4_3) (hc4_3 : l4_3.length ≤ c4_3) (h : spec_PlanFood.f k a0_0 a0_1 l0_2 a1 l2 a3_0 a3_1 a4_0 a4_1 l4_2 l4_3 = some r) :
  Calls Try.prog 68 #[.agg #[.int .i64 a0_0,.int .i64 a0_1,.slice A0_2 l0_2.length c0_2],.int .i64 a1,.slice A2 l2.length c2,.agg #[.int .i64 a3_0,.int .i64 a3_1],.agg #[.int .i64 a4_0,.int .i64 a4_1,.slice A4_2 l4_2.length c4_2,.slice A4_3 l4_3.length c4_3]] w fun e w' => e = .returned (.int .i64 r) ∧ Below w.heap.size w w':=by
 have hu51:=Try.underlying51;have hu37:=Try.underlying37;have hu27:=Try.underlying27;have HR0_2:=am hr0_2;have HC0_2:=am hc0_2;clear hr0_2 hc0_2;have HR2:=am hr2;have HC2:=am hc2;clear hr2 hc2;have HR4_2:=am hr4_2;have HC4_2:=am hc4_2;clear hr4_2 hc4_2;have HR4_3:=am hr4_3;have HC4_3:=am hc4_3;clear hr4_3 hc4_3;have HB:=am qq465;have H : ((spec_PlanDays.f k a0_0 a0_1 l0_2 a1 l2).bind fun t488 => (if t488 < 0 then (spec_PlanFood.j0 k t488 true a3_0 a3_1 a4_0 a4_1 l4_2 l4_3) else ((spec_AreCrew.f k l4_2).bind fun t489 => (spec_PlanFood.j0 k t488 (!t489) a3_0 a3_1 a4_0 a4_1 l4_2 l4_3)))) = some r:=h;clear h;replace H:=bS.mp H;obtain ⟨t488,A60,H⟩:=H;(try dsimp only at H);have A6:=am A60;clear A60;have HC7:=am H;clear H
 go_enter Try.func68,Try.ntmps68
 go_upto_region 2 with (first | ((with_reducible refine gate_dst (N:=5) rfl ?_);refine box_event ?hg (N:=5) ?hd (cs:=#[.int .i64 a0_0,.int .i64 a0_1,.slice A0_2 l0_2.length c0_2]) (t:=51) ?hr ?_;(case hd => rfl);(case hg => rfl);(case hr => exact qq312);intro gb485 hg w8 hbox hb;have BK485:=am (hbox);have GW485:=am ((qq144 : w.heap.size ≤ gb485));have GE485:=am ((qq144 : w.heap.size ≤ gb485));replace HB:=am qq488;clear hb hbox hg) | ((with_reducible refine gate_dst (N:=8) rfl ?_);refine box_event ?hg (N:=8) ?hd (cs:=#[.int .i64 a3_0,.int .i64 a3_1]) (t:=37) ?hr ?_;(case hd => rfl);(case hg => rfl);(case hr => exact qq312);intro gb486 hg w9 hbox hb;have BK486:=am (hbox);have GW486:=am ((qq81 : w.heap.size ≤ gb486));have GE486:=am ((qq81 : w.heap.size ≤ gb486));replace HB:=am (below_step qq151 hb);have NB485_486:=am ((qq32 : gb485 ≠ gb486));have NB486_485:=am ((qq38 : gb486 ≠ gb485));replace BK485:=am qq386;clear hb hbox hg) | ((with_reducible refine gate_dst (N:=9) rfl ?_);refine box_event ?hg (N:=9) ?hd (cs:=#[.int .i64 a4_0,.int .i64 a4_1,.slice A4_2 l4_2.length c4_2,.slice A4_3 l4_3.length c4_3]) (t:=27) ?hr ?_;(case hd => rfl);(case hg => rfl);(case hr => exact qq312);intro gb487 hg w10 hbox hb;have BK487:=am (hbox);have GW487:=am ((qq62 : w.heap.size ≤ gb487));have GE487:=am ((qq62 : w.heap.size ≤ gb487));replace HB:=am (below_step qq95 hb);have NB485_487:=am ((qq32 : gb485 ≠ gb487));have NB487_485:=am ((qq38 : gb487 ≠ gb485));replace BK485:=am qq386;have NB486_487:=am ((by rw [hg];exact Nat.ne_of_lt (blk_lt (g:=gb486) (o:=.cells #[.int .i64 a3_0,.int .i64 a3_1] 37 (0,0)) qq227) : gb486 ≠ gb487));have NB487_486:=am ((by rw [hg];exact Nat.ne_of_gt (blk_lt (g:=gb486) (o:=.cells #[.int .i64 a3_0,.int .i64 a3_1] 37 (0,0)) qq227) : gb487 ≠ gb486));replace BK486:=am qq411;clear hb hbox hg;have hnb11:=NB485_486.out;have hnc11:=NB486_485.out;have hnb12:=NB485_487.out;have hnc12:=NB487_485.out;obtain ⟨hcz13_0,hcz13_1,hcz13_2,hfz13_0,hfz13_1,hfz13_2⟩:=bcl3 BK485.out) | ((with_reducible refine gate_callee (f:=60) rfl ?_);refine goesL_ (some 16) rfl rfl Try.func60 (by kernel_rfl) rfl #[.agg #[.int .i64 a0_0,.int .i64 a0_1,.slice A0_2 l0_2.length c0_2],.int .i64 a1,.slice A2 l2.length c2] rfl qq187 ?_;(with_reducible refine (spec_PlanDays.calls k a0_0 a0_1 _ _ l0_2 a1 _ _ l2 t488 _ ?side1 ?side2 ?side3 ?side4 A6.out).mono ?_);(case side1 => exact qq117);(case side2 => exact qq334);(case side3 => exact qq131);(case side4 => exact HC2.out);rintro e w14 ⟨rfl,hb⟩;refine ⟨_,rfl,?_⟩;replace BK485:=am qq386;replace BK486:=am qq411;replace BK487:=am qq352;replace HB:=am (below_step qq68 hb);(try clear hb);(try clear hb2);(try clear hk);(try clear hi)))
 (try simp only [Act.put,sA,s0,s1])
 go_cut [24] (fun v24 wc => ∃ (kq : Nat) (x24_6 : Bool),v24 = .bool x24_6 ∧ Aside0 (spec_PlanFood.j0 kq t488 x24_6 a3_0 a3_1 a4_0 a4_1 l4_2 l4_3 = some r) ∧ Aside0 (kq ≤ k) ∧ Aside0 (wc.heap[gb485]? = some (.cells #[.int .i64 a0_0,.int .i64 a0_1,(.slice A0_2 l0_2.length c0_2)] 51 (0,0))) ∧ Aside0 (wc.heap[gb486]? = some (.cells #[.int .i64 a3_0,.int .i64 a3_1] 37 (0,0))) ∧ Aside0 (wc.heap[gb487]? = some (.cells #[.int .i64 a4_0,.int .i64 a4_1,(.slice A4_2 l4_2.length c4_2),(.slice A4_3 l4_3.length c4_3)] 27 (0,0))) ∧ Aside0 (Below w.heap.size w wc))
 case first =>
  have H:=HC7.out;clear HC7
  by_cases c15 : t488 < 0
  ·rw [if_pos c15] at H;have c15b0 : decide (t488 < 0) = true:=decide_eq_true c15;clear c15;(first | rw [c15b0] | (simp only [i64_w,i32_w];rw [c15b0]) | skip);have H':=am H;clear H;go_wp2
   go_meet
   case rel => exact ⟨_,(true),qq311,H',⟨qq313⟩,⟨qq228⟩,⟨qq227⟩,⟨qq226⟩,⟨qq68⟩⟩
  ·rw [if_neg c15] at H;have c15b0 : decide (t488 < 0) = false:=decide_eq_false c15;clear c15;(first | rw [c15b0] | (simp only [i64_w,i32_w];rw [c15b0]) | skip);replace H:=bS.mp H;obtain ⟨t489,A160,H⟩:=H;(try dsimp only at H);have A16:=am A160;clear A160;have H':=am H;clear H;have hnb17:=NB487_485.out;have hnc17:=NB485_487.out;have hnb18:=NB487_486.out;have hnc18:=NB486_487.out;obtain ⟨hcz19_0,hcz19_1,hcz19_2,hcz19_3,hfz19_0,hfz19_1,hfz19_2,hfz19_3⟩:=bcl4 BK487.out;go_wp2_with (first | (go_at_call 112;(with_reducible refine (spec_AreCrew.calls k _ _ l4_2 t489 _ ?side1 ?side2 A16.out).mono ?_);(case side1 => exact qq113);(case side2 => exact qq333);rintro e w20 ⟨rfl,hb⟩;replace BK485:=am qq386;replace BK486:=am qq411;replace BK487:=am qq352;replace HB:=am (below_step qq68 hb);(try clear hb);(try clear hb2);(try clear hk);(try clear hi)))
   go_meet
   case rel => exact ⟨_,(!t489),qq311,H',⟨qq313⟩,⟨qq228⟩,⟨qq227⟩,⟨qq226⟩,⟨qq68⟩⟩
 case rest =>
  clear HC7
  try clear c1
  try clear c2
  try clear p2
  try clear c4
  try clear c6
  try clear c11
  try clear c12
  try clear c15
  try clear c15b0
  try clear c17
  try clear c18
  try clear hcz13_0
  try clear hcz13_1
  try clear hcz13_2
  try clear hcz19_0
  try clear hcz19_1
  try clear hcz19_2
  try clear hcz19_3
  try clear hfz13_0
  try clear hfz13_1
  try clear hfz13_2
  try clear hfz19_0
  try clear hfz19_1
  try clear hfz19_2
  try clear hfz19_3
  obtain ⟨kq,x24_6,rfl,HA,HJ6,BK485,BK486,BK487,HB⟩:=hcut
  cases kq with
  | zero => exact absurd HA.out (by simp [spec_PlanFood.j0])
  | succ kj6 =>
   have H:=HA.out;clear HA;simp only [spec_PlanFood.j0] at H
   by_cases c21 : x24_6 = true
   ·subst c21;rw [if_pos rfl] at H;obtain rfl:=Option.some.inj H;go_wp2
    go_ret
    exact ⟨qq263,qq68⟩
   ·replace c21:=Bool.eq_false_iff.mpr c21;subst c21;have H1 : ((spec_WorstDays.f kj6 a3_0 a3_1 l4_3 t488).bind fun t490 => (if t490 < 0 then (some (-1)) else ((spec_NeedOf.f kj6 l4_2).bind fun t491 => (some (wrap64 (t491 * t490)))))) = some r:=by rw [if_neg (show ¬ (false = true) by decide)] at H;exact H
    clear H;have H:=H1;clear H1;replace H:=bS.mp H;obtain ⟨t490,A220,H⟩:=H;(try dsimp only at H);have A22:=am A220;clear A220
    by_cases c23 : t490 < 0
    ·rw [if_pos c23] at H;have c23b0 : decide (t490 < 0) = true:=decide_eq_true c23;clear c23;obtain rfl:=Option.some.inj H;have hnb24:=NB486_485.out;have hnc24:=NB485_486.out;have hnb25:=NB486_487.out;have hnc25:=NB487_486.out;obtain ⟨hcz26_0,hcz26_1,hfz26_0,hfz26_1⟩:=bcl2 BK486.out;have hnb27:=NB487_485.out;have hnc27:=NB485_487.out;obtain ⟨hcz28_0,hcz28_1,hcz28_2,hcz28_3,hfz28_0,hfz28_1,hfz28_2,hfz28_3⟩:=bcl4 BK487.out;go_wp2_with (first | ((with_reducible refine gate_callee (f:=113) rfl ?_);refine goesL_ (some 29) rfl rfl Try.func113 (by kernel_rfl) rfl #[.agg #[.int .i64 a3_0,.int .i64 a3_1],.slice A4_3 l4_3.length c4_3,.int .i64 t488] rfl qq187 ?_;(with_reducible refine (spec_WorstDays.calls kj6 a3_0 a3_1 _ _ l4_3 t488 t490 _ ?side1 ?side2 A22.out).mono ?_);(case side1 => exact qq112);(case side2 => exact qq332);rintro e w29 ⟨rfl,hb⟩;refine ⟨_,rfl,?_⟩;replace BK485:=am qq386;replace BK486:=am qq411;replace BK487:=am qq352;replace HB:=am (below_step qq68 hb);(try clear hb);(try clear hb2);(try clear hk);(try clear hi)))
     go_ret
     exact ⟨qq263,qq68⟩
    ·rw [if_neg c23] at H;have c23b0 : decide (t490 < 0) = false:=decide_eq_false c23;clear c23;replace H:=bS.mp H;obtain ⟨t491,A300,H⟩:=H;(try dsimp only at H);have A30:=am A300;clear A300;obtain rfl:=Option.some.inj H;have hnb31:=NB486_485.out;have hnc31:=NB485_486.out;have hnb32:=NB486_487.out;have hnc32:=NB487_486.out;obtain ⟨hcz33_0,hcz33_1,hfz33_0,hfz33_1⟩:=bcl2 BK486.out;have hnb34:=NB487_485.out;have hnc34:=NB485_487.out;obtain ⟨hcz35_0,hcz35_1,hcz35_2,hcz35_3,hfz35_0,hfz35_1,hfz35_2,hfz35_3⟩:=bcl4 BK487.out;go_wp2_with (first | ((with_reducible refine gate_callee (f:=113) rfl ?_);refine goesL_ (some 29) rfl rfl Try.func113 (by kernel_rfl) rfl #[.agg #[.int .i64 a3_0,.int .i64 a3_1],.slice A4_3 l4_3.length c4_3,.int .i64 t488] rfl qq187 ?_;(with_reducible refine (spec_WorstDays.calls kj6 a3_0 a3_1 _ _ l4_3 t488 t490 _ ?side1 ?side2 A22.out).mono ?_);(case side1 => exact qq112);(case side2 => exact qq332);rintro e w36 ⟨rfl,hb⟩;refine ⟨_,rfl,?_⟩;replace BK485:=am qq386;replace BK486:=am qq411;replace BK487:=am qq352;replace HB:=am (below_step qq68 hb);(try clear hb);(try clear hb2);(try clear hk);(try clear hi);obtain ⟨hcz37_0,hcz37_1,hcz37_2,hcz37_3,hfz37_0,hfz37_1,hfz37_2,hfz37_3⟩:=bcl4 BK487.out) | ((with_reducible refine gate_callee (f:=114) rfl ?_);refine goesL_ (some 34) rfl rfl Try.func114 (by kernel_rfl) rfl #[.slice A4_2 l4_2.length c4_2] rfl qq187 ?_;(with_reducible refine (spec_NeedOf.calls kj6 _ _ l4_2 t491 _ ?side1 ?side2 A30.out).mono ?_);(case side1 => exact qq113);(case side2 => exact qq333);rintro e w38 ⟨rfl,hb⟩;refine ⟨_,rfl,?_⟩;replace BK485:=am qq386;replace BK486:=am qq411;replace BK487:=am qq352;replace HB:=am (below_step qq68 hb);(try clear hb);(try clear hb2);(try clear hk);(try clear hi)))
     go_ret
     exact ⟨qq263,qq68⟩

/-! ### laws_toRule: function 69 -/
def laws_toRule.f (a0_0 : Int) (a0_1 : Int) : Option (Int × Int) := some (a0_0, a0_1)
set_option maxHeartbeats 8000000 in
set_option maxRecDepth 100000 in
theorem laws_toRule.calls (a0_0 : Int) (a0_1 : Int) (r1 : Int) (r2 : Int) (w : World) (h : laws_toRule.f a0_0 a0_1 = some (r1, r2)) :
  Calls Try.prog 69 #[.agg #[.int .i64 a0_0,.int .i64 a0_1]] w fun e w' => e = .returned (.agg #[.int .i64 r1,.int .i64 r2]) ∧ Below w.heap.size w w':=by
 have hu94:=Try.underlying94;have hu37:=Try.underlying37;have HB:=am qq465;have H : (some (a0_0,a0_1)) = some (r1,r2):=h;clear h;simp only [Option.some.injEq,Prod.mk.injEq] at H;obtain ⟨rfl,rfl⟩:=H
 go_enter Try.func69,Try.ntmps69
 go_wp2_with (first | ((with_reducible refine gate_dst (N:=1) rfl ?_);refine box_event ?hg (N:=1) ?hd (cs:=#[.int .i64 a0_0,.int .i64 a0_1]) (t:=94) ?hr ?_;(case hd => rfl);(case hg => rfl);(case hr => exact qq312);intro gb492 hg w2 hbox hb;have BK492:=am (hbox);have GW492:=am ((qq144 : w.heap.size ≤ gb492));have GE492:=am ((qq144 : w.heap.size ≤ gb492));replace HB:=am qq488;clear hb hbox hg) | ((with_reducible refine gate_dst (N:=2) rfl ?_);refine box_event ?hg (N:=2) ?hd (cs:=#[.int .i64 0,.int .i64 0]) (t:=37) ?hr ?_;(case hd => rfl);(case hg => rfl);(case hr => exact qq312);intro gb493 hg w3 hbox hb;have BK493:=am (hbox);have GW493:=am ((qq80 : w.heap.size ≤ gb493));have GE493:=am ((qq80 : w.heap.size ≤ gb493));replace HB:=am (below_step qq150 hb);have NB492_493:=am ((qq53 : gb492 ≠ gb493));have NB493_492:=am ((qq56 : gb493 ≠ gb492));replace BK492:=am qq412;clear hb hbox hg) | ((with_reducible refine gate_dst (N:=3) rfl ?_);refine box_event ?hg (N:=3) ?hd (cs:=#[.int .i64 0,.int .i64 0]) (t:=37) ?hr ?_;(case hd => rfl);(case hg => rfl);(case hr => exact qq312);intro gb494 hg w4 hbox hb;have BK494:=am (hbox);have GW494:=am ((qq61 : w.heap.size ≤ gb494));have GE494:=am ((qq61 : w.heap.size ≤ gb494));replace HB:=am (below_step qq94 hb);have NB492_494:=am ((qq53 : gb492 ≠ gb494));have NB494_492:=am ((qq56 : gb494 ≠ gb492));replace BK492:=am qq412;have NB493_494:=am ((by rw [hg];exact Nat.ne_of_lt (blk_lt (g:=gb493) (o:=.cells #[.int .i64 0,.int .i64 0] 37 (0,0)) qq224) : gb493 ≠ gb494));have NB494_493:=am ((by rw [hg];exact Nat.ne_of_gt (blk_lt (g:=gb493) (o:=.cells #[.int .i64 0,.int .i64 0] 37 (0,0)) qq224) : gb494 ≠ gb493));replace BK493:=am (blk_below (g:=gb493) (o:=.cells #[.int .i64 0,.int .i64 0] 37 (0,0)) qq224 hb);clear hb hbox hg;have hnb5:=NB492_493.out;have hnc5:=NB493_492.out;have hnb6:=NB492_494.out;have hnc6:=NB494_492.out;obtain ⟨hcz7_0,hcz7_1,hfz7_0,hfz7_1⟩:=bcl2 BK492.out;have hnb8:=NB494_493.out;have hnc8:=NB493_494.out;obtain ⟨hcz9_0,hcz9_1,hfz9_0,hfz9_1⟩:=bcl2 BK494.out;obtain ⟨hcz10_0,hcz10_1,hfz10_0,hfz10_1⟩:=bcl2 BK493.out))
 refine bodyPost_ret (results_cell_row rfl _ _ gb493 37 #[.int .i64 a0_0,.int .i64 a0_1] (0,0) _ rfl (by (with_reducible repeat (first | refine dN ?_ _ | refine dD ?_ | refine dA ?_ _));refine blk_put (cs:=#[.int .i64 a0_0,.int .i64 0]) ?_ 1 _ rfl;(with_reducible repeat (first | refine dN ?_ _ | refine dD ?_ | refine dA ?_ _));refine blk_put (cs:=#[.int .i64 0,.int .i64 0]) ?_ 0 _ rfl;(with_reducible repeat (first | refine dN ?_ _ | refine dD ?_ | refine dA ?_ _));refine blk_far ?_ NB493_494.out _;(with_reducible repeat (first | refine dN ?_ _ | refine dD ?_ | refine dA ?_ _));refine blk_far ?_ NB493_494.out _;(with_reducible repeat (first | refine dN ?_ _ | refine dD ?_ | refine dA ?_ _));exact BK493.out) Try.underlying37 rfl (by kernel_rfl)) rfl ?_;exact ⟨qq263,by repeat (first | (with_reducible first | exact HB.out | apply bA | apply bN | apply bD | refine below_set ?_ GE492.out | refine below_set ?_ GE493.out | refine below_set ?_ GE494.out) | exact HB.out)⟩

/-! ### laws_toMember: function 140 -/
def laws_toMember.f (a0_0 : Int) (a0_1 : Int) (a0_2 : Int) (a0_3 : Bool) : Option (Int × Int × Int × Bool) := some (a0_0, a0_1, a0_2, a0_3)
set_option maxHeartbeats 8000000 in
set_option maxRecDepth 100000 in
theorem laws_toMember.calls (a0_0 : Int) (a0_1 : Int) (a0_2 : Int) (a0_3 : Bool) (r1 : Int) (r2 : Int) (r3 : Int) (r4 : Bool) (w : World) (h : laws_toMember.f a0_0 a0_1 a0_2 a0_3 = some (r1, r2, r3, r4)) :
  Calls Try.prog 140 #[.agg #[.int .i64 a0_0,.int .i64 a0_1,.int .i64 a0_2,.bool a0_3]] w fun e w' => e = .returned (.agg #[.int .i64 r1,.int .i64 r2,.int .i64 r3,.bool r4]) ∧ Below w.heap.size w w':=by
 have hu152:=Try.underlying152;have hu112:=Try.underlying112;have HB:=am qq465;have H : (some (a0_0,a0_1,a0_2,a0_3)) = some (r1,r2,r3,r4):=h;clear h;simp only [Option.some.injEq,Prod.mk.injEq] at H;obtain ⟨rfl,rfl,rfl,rfl⟩:=H
 go_enter Try.func140,Try.ntmps140
 go_wp2_with (first | ((with_reducible refine gate_dst (N:=1) rfl ?_);refine box_event ?hg (N:=1) ?hd (cs:=#[.int .i64 a0_0,.int .i64 a0_1,.int .i64 a0_2,.bool a0_3]) (t:=152) ?hr ?_;(case hd => rfl);(case hg => rfl);(case hr => exact qq312);intro gb495 hg w2 hbox hb;have BK495:=am (hbox);have GW495:=am ((qq144 : w.heap.size ≤ gb495));have GE495:=am ((qq144 : w.heap.size ≤ gb495));replace HB:=am qq488;clear hb hbox hg) | ((with_reducible refine gate_dst (N:=2) rfl ?_);refine box_event ?hg (N:=2) ?hd (cs:=#[.int .i64 0,.int .i64 0,.int .i64 0,.bool false]) (t:=112) ?hr ?_;(case hd => rfl);(case hg => rfl);(case hr => exact qq312);intro gb496 hg w3 hbox hb;have BK496:=am (hbox);have GW496:=am ((qq79 : w.heap.size ≤ gb496));have GE496:=am ((qq79 : w.heap.size ≤ gb496));replace HB:=am (below_step qq149 hb);have NB495_496:=am ((qq46 : gb495 ≠ gb496));have NB496_495:=am ((qq48 : gb496 ≠ gb495));replace BK495:=am qq390;clear hb hbox hg) | ((with_reducible refine gate_dst (N:=3) rfl ?_);refine box_event ?hg (N:=3) ?hd (cs:=#[.int .i64 0,.int .i64 0,.int .i64 0,.bool false]) (t:=112) ?hr ?_;(case hd => rfl);(case hg => rfl);(case hr => exact qq312);intro gb497 hg w4 hbox hb;have BK497:=am (hbox);have GW497:=am ((qq60 : w.heap.size ≤ gb497));have GE497:=am ((qq60 : w.heap.size ≤ gb497));replace HB:=am (below_step qq93 hb);have NB495_497:=am ((qq46 : gb495 ≠ gb497));have NB497_495:=am ((qq48 : gb497 ≠ gb495));replace BK495:=am qq390;have NB496_497:=am ((by rw [hg];exact Nat.ne_of_lt (blk_lt (g:=gb496) (o:=.cells #[.int .i64 0,.int .i64 0,.int .i64 0,.bool false] 112 (0,0)) qq222) : gb496 ≠ gb497));have NB497_496:=am ((by rw [hg];exact Nat.ne_of_gt (blk_lt (g:=gb496) (o:=.cells #[.int .i64 0,.int .i64 0,.int .i64 0,.bool false] 112 (0,0)) qq222) : gb497 ≠ gb496));replace BK496:=am (blk_below (g:=gb496) (o:=.cells #[.int .i64 0,.int .i64 0,.int .i64 0,.bool false] 112 (0,0)) qq222 hb);clear hb hbox hg;have hnb5:=NB495_496.out;have hnc5:=NB496_495.out;have hnb6:=NB495_497.out;have hnc6:=NB497_495.out;obtain ⟨hcz7_0,hcz7_1,hcz7_2,hcz7_3,hfz7_0,hfz7_1,hfz7_2,hfz7_3⟩:=bcl4 BK495.out;have hnb8:=NB497_496.out;have hnc8:=NB496_497.out;obtain ⟨hcz9_0,hcz9_1,hcz9_2,hcz9_3,hfz9_0,hfz9_1,hfz9_2,hfz9_3⟩:=bcl4 BK497.out;obtain ⟨hcz10_0,hcz10_1,hcz10_2,hcz10_3,hfz10_0,hfz10_1,hfz10_2,hfz10_3⟩:=bcl4 BK496.out))
 refine bodyPost_ret (results_cell_row rfl _ _ gb496 112 #[.int .i64 a0_0,.int .i64 a0_1,.int .i64 a0_2,.bool a0_3] (0,0) _ rfl (by (with_reducible repeat (first | refine dN ?_ _ | refine dD ?_ | refine dA ?_ _));refine blk_put (cs:=#[.int .i64 a0_0,.int .i64 a0_1,.int .i64 a0_2,.bool false]) ?_ 3 _ rfl;(with_reducible repeat (first | refine dN ?_ _ | refine dD ?_ | refine dA ?_ _));refine blk_put (cs:=#[.int .i64 a0_0,.int .i64 a0_1,.int .i64 0,.bool false]) ?_ 2 _ rfl;(with_reducible repeat (first | refine dN ?_ _ | refine dD ?_ | refine dA ?_ _));refine blk_put (cs:=#[.int .i64 a0_0,.int .i64 0,.int .i64 0,.bool false]) ?_ 1 _ rfl;(with_reducible repeat (first | refine dN ?_ _ | refine dD ?_ | refine dA ?_ _));refine blk_put (cs:=#[.int .i64 0,.int .i64 0,.int .i64 0,.bool false]) ?_ 0 _ rfl;(with_reducible repeat (first | refine dN ?_ _ | refine dD ?_ | refine dA ?_ _));refine blk_far ?_ NB496_497.out _;(with_reducible repeat (first | refine dN ?_ _ | refine dD ?_ | refine dA ?_ _));refine blk_far ?_ NB496_497.out _;(with_reducible repeat (first | refine dN ?_ _ | refine dD ?_ | refine dA ?_ _));refine blk_far ?_ NB496_497.out _;(with_reducible repeat (first | refine dN ?_ _ | refine dD ?_ | refine dA ?_ _));refine blk_far ?_ NB496_497.out _;(with_reducible repeat (first | refine dN ?_ _ | refine dD ?_ | refine dA ?_ _));exact BK496.out) Try.underlying112 rfl (by kernel_rfl)) rfl ?_;exact ⟨qq263,by repeat (first | (with_reducible first | exact HB.out | apply bA | apply bN | apply bD | refine below_set ?_ GE495.out | refine below_set ?_ GE496.out | refine below_set ?_ GE497.out) | exact HB.out)⟩

/-! ### laws_toMemberS: function 115 -/
def laws_toMemberS.l0 : Nat → List (S152) → List (S112) → Int → Option ((List (S112)))
 | 0,_,_,_ => none
 | k + 1,x0,x3,x4 => if x4 < (x0.length : Int) then (if 0 ≤ x4 then ((laws_toMember.f ((rd_T152 x0 x4).f0) ((rd_T152 x0 x4).f1) ((rd_T152 x0 x4).f2) ((rd_T152 x0 x4).f3)).bind fun bt502 => (if x4 < (x3.length : Int) then (laws_toMemberS.l0 k x0 (x3.set (x4 : Int).toNat (⟨bt502.1,bt502.2.1,bt502.2.2.1,bt502.2.2.2⟩ : S112)) (wrap64 (x4 + 1))) else (none))) else (none)) else (some x3)
def laws_toMemberS.f (k : Nat) (l0 : List (S152)) : Option ((List (S112))) := if 0 ≤ (l0.length : Int) then (if ((l0.length : Int) : Int).toNat ≤ 8796093022208 then (laws_toMemberS.l0 k l0 (List.replicate ((l0.length : Int) : Int).toNat z112) 0) else (none)) else (none)
set_option maxHeartbeats 8000000 in
set_option maxRecDepth 100000 in
theorem laws_toMemberS.calls (k : Nat) (A0 : Option Addr) (c0 : Nat) (l0 : List (S152)) (r : List (S112)) (w : World) (hr0 : Kd.C k152 w A0 l0.length l0) (hc0 : l0.length ≤ c0) (h : laws_toMemberS.f k l0 = some r) :
  Calls Try.prog 115 #[.slice A0 l0.length c0] w fun e w' => ∃ v0_ : Value,e = .returned (v0_) ∧ Kd.R k112 112 w' w.heap.size (fun _ => True) v0_ r ∧ Below w.heap.size w w':=by
 have hu152:=Try.underlying152;have hu112:=Try.underlying112;have HR0:=am hr0;have HC0:=am hc0;clear hr0 hc0;have HB:=am qq465;have H : (if 0 ≤ (l0.length : Int) then (if ((l0.length : Int) : Int).toNat ≤ 8796093022208 then (laws_toMemberS.l0 k l0 (List.replicate ((l0.length : Int) : Int).toNat z112) 0) else (none)) else (none)) = some r:=h;clear h
 by_cases c2 : 0 ≤ (l0.length : Int)
 ·rw [if_pos c2] at H;have c2b0:=eq_true c2;have c2b1 : decide (0 ≤ (l0.length : Int)) = true:=decide_eq_true c2;clear c2
  by_cases c3 : ((l0.length : Int) : Int).toNat ≤ 8796093022208
  ·rw [if_pos c3] at H;have c3b0:=eq_true c3;have c3b1 : decide (((l0.length : Int) : Int).toNat ≤ 8796093022208) = true:=decide_eq_true c3;clear c3;obtain ⟨y498,hy498⟩ : ∃ y_ : List (S112),y_ = (List.replicate ((l0.length : Int) : Int).toNat z112):=⟨_,rfl⟩
   replace H : (laws_toMemberS.l0 k l0 y498 0) = some r:=by first | (rw [hy498];with_reducible exact H) | (have H2_:=(Option.bind_some _ _).symm.trans H;rw [hy498];with_reducible exact H2_) | (have H2_:=(Option.bind_some _ _).symm.trans H;with_reducible exact H2_) | with_reducible exact H | (rw [hy498];exact H) | exact H
   have Ny498:=am hy498;clear hy498;have H':=am H;clear H
   go_enter Try.func115,Try.ntmps115
   go_wp2_with (first | ((with_reducible refine gate_dst (N:=7) rfl ?_);refine Kd.R_make k112 _ 112 rfl (N:=7) rfl 24 _ _ rfl (l0.length : Int) rfl rfl Try.underlying24 (.agg #[(.int .i64 0),(.int .i64 0),(.int .i64 0),(.bool false)]) 32 info112 rfl (by decide) (by omega) z112 (ok:=fun _ => True) (okp:=fun _ => True) (k112_mkM _ _ _ z112 ) (fun _ hk => hk) trivial (odt qq309) (Nat.le_trans (Nat.mul_le_mul_right _ (odt qq309 : (l0.length : Int).toNat ≤ 8796093022208)) (by omega)) (Below.refl _ _) (Nat.le_refl _) ?_;intro v499 w4 ho5 hb hg_ hnew_;clear hg_ hnew_;(first | rw [← Ny498.out] at ho5 | (simp only [Int.reduceToNat] at ho5;rw [← Ny498.out] at ho5));have HO500:=am qq429;replace HB:=am qq488;clear hb ho5))
   go_loopg [4] k (fun kq v4 w' => ∃ (x3_1 : List (S112)) (x4_1 : Int),v4 = .int .i64 x4_1 ∧ Aside0 (laws_toMemberS.l0 kq l0 x3_1 x4_1 = some r) ∧ Aside0 (kq ≤ k) ∧ Aside0 (Kd.R k112 112 w' w.heap.size (fun _ => True) v499 x3_1) ∧ Aside0 (Below w.heap.size w w'))
   case atStart => exact ⟨(y498),(0),qq311,H',⟨Nat.le_refl _⟩,⟨by (with_reducible repeat (first | apply kA | apply kN | apply kD));exact HO500.out⟩,⟨qq208⟩⟩
   case round =>
    clear H'
    try clear c1
    try clear c2
    try clear c2b0
    try clear c2b1
    try clear p2
    try clear c3
    try clear c3b0
    try clear c3b1
    obtain ⟨x3_1,x4_1,rfl,HA,HK1,HO_3,HB⟩:=hrel
    cases gk with
    | zero => exact absurd HA.out (by simp [laws_toMemberS.l0])
    | succ k1 =>
     have H:=HA.out;clear HA;simp only [laws_toMemberS.l0] at H
     by_cases c6 : x4_1 < (l0.length : Int)
     ·rw [if_pos c6] at H;have c6b0 : decide (x4_1 < (l0.length : Int)) = true:=decide_eq_true c6;clear c6
      by_cases c7 : 0 ≤ x4_1
      ·rw [if_pos c7] at H;have c7b0 : decide (0 ≤ x4_1) = true:=decide_eq_true c7;clear c7;replace H:=bS.mp H;obtain ⟨⟨t502,t503,t504,t505⟩,A80,H⟩:=H;(try dsimp only at H);have A8:=am A80;clear A80
       by_cases c9 : x4_1 < (x3_1.length : Int)
       ·rw [if_pos c9] at H;have c9b0 : decide (x4_1 < (x3_1.length : Int)) = true:=decide_eq_true c9;clear c9;obtain ⟨y506,hy506⟩ : ∃ y_ : List (S112),y_ = (x3_1.set (x4_1 : Int).toNat (⟨t502,t503,t504,t505⟩ : S112)):=⟨_,rfl⟩
        replace H : (laws_toMemberS.l0 k1 l0 y506 (wrap64 (x4_1 + 1))) = some r:=by first | (rw [hy506];with_reducible exact H) | (have H2_:=(Option.bind_some _ _).symm.trans H;rw [hy506];with_reducible exact H2_) | (have H2_:=(Option.bind_some _ _).symm.trans H;with_reducible exact H2_) | with_reducible exact H | (rw [hy506];exact H) | exact H
        have Ny506:=am hy506;clear hy506;have H':=am H;clear H;have p501 : 0 ≤ (x4_1 : Int):=odt qq309;have q501 : x4_1 < (l0.length : Int):=odt qq309;obtain ⟨ad501,e501,hx501_0,hx501_1,hx501_2,hx501_3⟩:=at_T152 HR0.out x4_1 p501 q501
        cases e501
        replace hx501_0:=(ct HB.out hx501_0 :)
        replace hx501_1:=(ct HB.out hx501_1 :)
        replace hx501_2:=(ct HB.out hx501_2 :)
        replace hx501_3:=(ct HB.out hx501_3 :)
        replace p501:=eq_true p501;replace q501:=eq_true q501;go_wp2_with (first | ((with_reducible refine gate_callee (f:=140) rfl ?_);refine goesL_ (some 20) rfl rfl Try.func140 (by kernel_rfl) rfl #[.agg #[.int .i64 ((rd_T152 l0 x4_1).f0),.int .i64 ((rd_T152 l0 x4_1).f1),.int .i64 ((rd_T152 l0 x4_1).f2),.bool ((rd_T152 l0 x4_1).f3)]] rfl qq187 ?_;(with_reducible refine (laws_toMember.calls ((rd_T152 l0 x4_1).f0) ((rd_T152 l0 x4_1).f1) ((rd_T152 l0 x4_1).f2) ((rd_T152 l0 x4_1).f3) t502 t503 t504 t505 _ A8.out).mono ?_);rintro e w11 ⟨rfl,hb⟩;refine ⟨_,rfl,?_⟩;replace HO_3:=am (Kd.R_below qq304 hb);replace HB:=am qq488;(try clear hb);(try clear hb2);(try clear hk);(try clear hi);have p10 : 0 ≤ (x4_1 : Int):=odt qq309;have q10 : (x4_1 : Int) < ((x3_1.length : Int) : Int):=odt qq309;obtain ⟨go10,co10,eo10,gb10,gl10,cl10,HG10⟩:=Kd.R_form HO_3.out (by omega);(first | cases eo10 | (injection eo10 with ea_ en_ ec_;(first | subst ea_ | (injection ea_ with ea_;subst ea_));subst ec_;clear en_));have GB10:=am gb10;have GG10:=am HG10;clear gb10 gl10 HG10;obtain ⟨ce10,hcl10,hM10,hcc10,hfr10⟩:=Kd.R_elem HO_3.out z112 (x4_1 : Int) p10 q10;obtain rfl:=k112_openM hM10;have hx10_0 : w11.cell? ⟨go10,(x4_1 : Int).toNat * 4,none⟩ = some (.int .i64 ((rd_T112 x3_1 x4_1).f0)):=hcc10 0 _ rfl;have hx10_1 : w11.cell? ⟨go10,(x4_1 : Int).toNat * 4 + 1,none⟩ = some (.int .i64 ((rd_T112 x3_1 x4_1).f1)):=hcc10 1 _ rfl;have hx10_2 : w11.cell? ⟨go10,(x4_1 : Int).toNat * 4 + 2,none⟩ = some (.int .i64 ((rd_T112 x3_1 x4_1).f2)):=hcc10 2 _ rfl;have hx10_3 : w11.cell? ⟨go10,(x4_1 : Int).toNat * 4 + 3,none⟩ = some (.bool ((rd_T112 x3_1 x4_1).f3)):=hcc10 3 _ rfl;have hf10_0 : w11.frozen? ⟨go10,(x4_1 : Int).toNat * 4,none⟩ = false:=hfr10 0;have hf10_1 : w11.frozen? ⟨go10,(x4_1 : Int).toNat * 4 + 1,none⟩ = false:=hfr10 1;have hf10_2 : w11.frozen? ⟨go10,(x4_1 : Int).toNat * 4 + 2,none⟩ = false:=hfr10 2;have hf10_3 : w11.frozen? ⟨go10,(x4_1 : Int).toNat * 4 + 3,none⟩ = false:=hfr10 3;clear hcl10 hcc10 hfr10;(try clear hM10);replace p10:=eq_true p10;replace q10:=eq_true q10;have HX12:=am (show Kd.R k112 112 w11 w.heap.size (fun _ => True) (.slice (some ⟨go10,0,none⟩) x3_1.length co10) x3_1 from qq304);obtain ⟨ce12,hcl12,hM12,hcc12,hfr12⟩:=Kd.R_elem HX12.out z112 (x4_1 : Int) (odt qq309) qq73;obtain rfl:=k112_openM hM12;have HP12:=Kd.R_seg HX12.out (x4_1 : Int) (odt qq309) qq73 (seg:=[.int .i64 t502,.int .i64 t503,.int .i64 t504,.bool t505]) (j:=0) hcl12 hcc12 (show 4 ≤ 4 from by decide) (x':=(⟨t502,t503,t504,t505⟩ : S112)) (k112_mkM _ _ _ (⟨t502,t503,t504,t505⟩ : S112) ) (fun _ hk => hk);have hx12_0:=hcc12 0 _ rfl;(try simp only [show (k112).sz = 4 from rfl,Nat.mul_one,Nat.add_zero] at hx12_0);have hf12_0:=hfr12 0;(try simp only [show (k112).sz = 4 from rfl,Nat.mul_one,Nat.add_zero] at hf12_0);have hx12_1:=hcc12 1 _ rfl;(try simp only [show (k112).sz = 4 from rfl,Nat.mul_one,Nat.add_zero] at hx12_1);have hf12_1:=hfr12 1;(try simp only [show (k112).sz = 4 from rfl,Nat.mul_one,Nat.add_zero] at hf12_1);have hx12_2:=hcc12 2 _ rfl;(try simp only [show (k112).sz = 4 from rfl,Nat.mul_one,Nat.add_zero] at hx12_2);have hf12_2:=hfr12 2;(try simp only [show (k112).sz = 4 from rfl,Nat.mul_one,Nat.add_zero] at hf12_2);have hx12_3:=hcc12 3 _ rfl;(try simp only [show (k112).sz = 4 from rfl,Nat.mul_one,Nat.add_zero] at hx12_3);have hf12_3:=hfr12 3;(try simp only [show (k112).sz = 4 from rfl,Nat.mul_one,Nat.add_zero] at hf12_3);clear hcl12 hcc12 hfr12 hM12) | ((with_reducible refine gate_store (t:=112) (p:=21) rfl ?_);refine store_event (t:=112) (p:=21) (v:=?vo_w13) (w1:=((((w11.setCell ⟨go10,(x4_1 : Int).toNat * 4,none⟩ (.int .i64 t502)).setCell ⟨go10,(x4_1 : Int).toNat * 4 + 1,none⟩ (.int .i64 t503)).setCell ⟨go10,(x4_1 : Int).toNat * 4 + 2,none⟩ (.int .i64 t504)).setCell ⟨go10,(x4_1 : Int).toNat * 4 + 3,none⟩ (.bool t505))) ?hg ?ho ?hn ?hr ?_;(case ho => rfl);(case hg => rfl);(case hn => rfl);(case hr => exact qq312);intro w13 hw;have hg : w11.grownBy w13 (some go10):=(by rw [hw];exact HP12.2);have hp_ : Kd.R k112 112 w13 w.heap.size (fun _ => True) (.slice (some ⟨go10,0,none⟩) x3_1.length co10) y506:=(by rw [hw,Ny506.out];exact HP12.1);clear HP12;replace HO_3:=am (hp_);replace HB:=am ((by rw [hw];exact below_set (below_set (below_set (below_set (HB.out) GB10.out) GB10.out) GB10.out) GB10.out : Below w.heap.size w w13));clear hg hw hp_))
        go_roundg k1
        case measure => have:=HK1.out;omega
        case rel => exact ⟨(y506),(wrap64 (x4_1 + 1)),qq311,H',⟨qq331⟩,⟨qq304⟩,⟨qq208⟩⟩
       ·rw [if_neg c9] at H;exact absurd H (by simp)
      ·rw [if_neg c7] at H;exact absurd H (by simp)
     ·rw [if_neg c6] at H;have c6b0 : decide (x4_1 < (l0.length : Int)) = false:=decide_eq_false c6;clear c6;obtain rfl:=Option.some.inj H;go_wp2
      go_ret
      exact ⟨_,qq263,qq304,qq208⟩
  ·rw [if_neg c3] at H;exact absurd H (by simp)
 ·rw [if_neg c2] at H;exact absurd H (by simp)

/-! ### laws_toBoolS: function 116 -/
def laws_toBoolS.l0 : Nat → List Bool → List Bool → Int → Option (List Bool)
 | 0,_,_,_ => none
 | k + 1,x0,x3,x4 => if x4 < (x0.length : Int) then (if 0 ≤ x4 then (if x4 < (x3.length : Int) then (laws_toBoolS.l0 k x0 (x3.set (x4 : Int).toNat (rdOf false x0 x4)) (wrap64 (x4 + 1))) else (none)) else (none)) else (some x3)
def laws_toBoolS.f (k : Nat) (l0 : List Bool) : Option (List Bool) := if 0 ≤ (l0.length : Int) then (if ((l0.length : Int) : Int).toNat ≤ 281474976710656 then (laws_toBoolS.l0 k l0 (List.replicate ((l0.length : Int) : Int).toNat false) 0) else (none)) else (none)
set_option maxHeartbeats 8000000 in
set_option maxRecDepth 100000 in
theorem laws_toBoolS.calls (k : Nat) (A0 : Option Addr) (c0 : Nat) (l0 : List Bool) (r : List Bool) (w : World) (hr0 : Kd.C Kd.bool w A0 l0.length l0) (hc0 : l0.length ≤ c0) (h : laws_toBoolS.f k l0 = some r) :
  Calls Try.prog 116 #[.slice A0 l0.length c0] w fun e w' => ∃ v0_ : Value,e = .returned (v0_) ∧ Kd.R Kd.bool 4 w' w.heap.size (fun _ => True) v0_ r ∧ Below w.heap.size w w':=by
 have HR0:=am hr0;have HC0:=am hc0;clear hr0 hc0;have HB:=am qq465;have H : (if 0 ≤ (l0.length : Int) then (if ((l0.length : Int) : Int).toNat ≤ 281474976710656 then (laws_toBoolS.l0 k l0 (List.replicate ((l0.length : Int) : Int).toNat false) 0) else (none)) else (none)) = some r:=h;clear h
 by_cases c2 : 0 ≤ (l0.length : Int)
 ·rw [if_pos c2] at H;have c2b0:=eq_true c2;have c2b1 : decide (0 ≤ (l0.length : Int)) = true:=decide_eq_true c2;clear c2
  by_cases c3 : ((l0.length : Int) : Int).toNat ≤ 281474976710656
  ·rw [if_pos c3] at H;have c3b0:=eq_true c3;have c3b1 : decide (((l0.length : Int) : Int).toNat ≤ 281474976710656) = true:=decide_eq_true c3;clear c3;obtain ⟨y507,hy507⟩ : ∃ y_ : List Bool,y_ = (List.replicate ((l0.length : Int) : Int).toNat false):=⟨_,rfl⟩
   replace H : (laws_toBoolS.l0 k l0 y507 0) = some r:=by first | (rw [hy507];with_reducible exact H) | (have H2_:=(Option.bind_some _ _).symm.trans H;rw [hy507];with_reducible exact H2_) | (have H2_:=(Option.bind_some _ _).symm.trans H;with_reducible exact H2_) | with_reducible exact H | (rw [hy507];exact H) | exact H
   have Ny507:=am hy507;clear hy507;have H':=am H;clear H
   go_enter Try.func116,Try.ntmps116
   go_wp2_with (first | ((with_reducible refine gate_dst (N:=7) rfl ?_);refine Kd.R_make Kd.bool _ 4 rfl (N:=7) rfl 25 _ _ rfl (l0.length : Int) rfl rfl Try.underlying25 (.bool false) 1 info4 rfl (by decide) (by omega) false (ok:=fun _ => True) (okp:=fun _ => True) rfl (fun _ hk => hk) trivial (odt qq309) (Nat.le_trans (Nat.mul_le_mul_right _ (odt qq309 : (l0.length : Int).toNat ≤ 281474976710656)) (by omega)) (Below.refl _ _) (Nat.le_refl _) ?_;intro v508 w4 ho5 hb hg_ hnew_;clear hg_ hnew_;(first | rw [← Ny507.out] at ho5 | (simp only [Int.reduceToNat] at ho5;rw [← Ny507.out] at ho5));have HO509:=am qq429;replace HB:=am qq488;clear hb ho5))
   go_loopg [4] k (fun kq v4 w' => ∃ (x3_1 : List Bool) (x4_1 : Int),v4 = .int .i64 x4_1 ∧ Aside0 (laws_toBoolS.l0 kq l0 x3_1 x4_1 = some r) ∧ Aside0 (kq ≤ k) ∧ Aside0 (Kd.R Kd.bool 4 w' w.heap.size (fun _ => True) v508 x3_1) ∧ Aside0 (Below w.heap.size w w'))
   case atStart => exact ⟨(y507),(0),qq311,H',⟨Nat.le_refl _⟩,⟨by (with_reducible repeat (first | apply kA | apply kN | apply kD));exact HO509.out⟩,⟨qq208⟩⟩
   case round =>
    clear H'
    try clear c1
    try clear c2
    try clear c2b0
    try clear c2b1
    try clear p2
    try clear c3
    try clear c3b0
    try clear c3b1
    obtain ⟨x3_1,x4_1,rfl,HA,HK1,HO_3,HB⟩:=hrel
    cases gk with
    | zero => exact absurd HA.out (by simp [laws_toBoolS.l0])
    | succ k1 =>
     have H:=HA.out;clear HA;simp only [laws_toBoolS.l0] at H
     by_cases c6 : x4_1 < (l0.length : Int)
     ·rw [if_pos c6] at H;have c6b0 : decide (x4_1 < (l0.length : Int)) = true:=decide_eq_true c6;clear c6
      by_cases c7 : 0 ≤ x4_1
      ·rw [if_pos c7] at H;have c7b0 : decide (0 ≤ x4_1) = true:=decide_eq_true c7;clear c7
       by_cases c8 : x4_1 < (x3_1.length : Int)
       ·rw [if_pos c8] at H;have c8b0 : decide (x4_1 < (x3_1.length : Int)) = true:=decide_eq_true c8;clear c8;obtain ⟨y511,hy511⟩ : ∃ y_ : List Bool,y_ = (x3_1.set (x4_1 : Int).toNat (rdOf false l0 x4_1)):=⟨_,rfl⟩
        replace H : (laws_toBoolS.l0 k1 l0 y511 (wrap64 (x4_1 + 1))) = some r:=by first | (rw [hy511];with_reducible exact H) | (have H2_:=(Option.bind_some _ _).symm.trans H;rw [hy511];with_reducible exact H2_) | (have H2_:=(Option.bind_some _ _).symm.trans H;with_reducible exact H2_) | with_reducible exact H | (rw [hy511];exact H) | exact H
        have Ny511:=am hy511;clear hy511;have H':=am H;clear H;have p510 : 0 ≤ (x4_1 : Int):=odt qq309;have q510 : x4_1 < (l0.length : Int):=odt qq309;obtain ⟨ad510,e510,hx510_0⟩:=Kd.at_bool HR0.out x4_1 p510 q510
        cases e510
        replace hx510_0:=(ct HB.out hx510_0 :)
        replace p510:=eq_true p510;replace q510:=eq_true q510;have p9 : 0 ≤ (x4_1 : Int):=odt qq309;have q9 : (x4_1 : Int) < ((x3_1.length : Int) : Int):=odt qq309;obtain ⟨go9,co9,eo9,gb9,gl9,cl9,HG9⟩:=Kd.R_form HO_3.out (by omega);(first | cases eo9 | (injection eo9 with ea_ en_ ec_;(first | subst ea_ | (injection ea_ with ea_;subst ea_));subst ec_;clear en_));have GB9:=am gb9;have GG9:=am HG9;clear gb9 gl9 HG9;obtain ⟨hx9_0,hf9_0⟩:=Kd.R_celln false HO_3.out (x4_1 : Int) p9 q9;replace p9:=eq_true p9;replace q9:=eq_true q9;have HP10:=Kd.R_putg HO_3.out (x4_1 : Int) (rdOf false l0 x4_1);go_wp2_with (first | ((with_reducible refine gate_store (t:=4) (p:=20) rfl ?_);refine store_event (t:=4) (p:=20) (v:=?vo_w11) (w1:=(wr.setCell ⟨go9,(x4_1 : Int).toNat,none⟩ (.bool (rdOf false l0 x4_1)))) ?hg ?ho ?hn ?hr ?_;(case ho => rfl);(case hg => rfl);(case hn => rfl);(case hr => exact qq312);intro w11 hw;have hg : wr.grownBy w11 (some go9):=(by rw [hw];exact HP10.2);have hp_ : Kd.R Kd.bool 4 w11 w.heap.size (fun _ => True) (.slice (some ⟨go9,0,none⟩) x3_1.length co9) y511:=(by rw [hw,Ny511.out];exact HP10.1);clear HP10;replace HO_3:=am (hp_);replace HB:=am ((by rw [hw];exact below_set (HB.out) GB9.out : Below w.heap.size w w11));clear hg hw hp_))
        go_roundg k1
        case measure => have:=HK1.out;omega
        case rel => exact ⟨(y511),(wrap64 (x4_1 + 1)),qq311,H',⟨qq331⟩,⟨qq304⟩,⟨qq208⟩⟩
       ·rw [if_neg c8] at H;exact absurd H (by simp)
      ·rw [if_neg c7] at H;exact absurd H (by simp)
     ·rw [if_neg c6] at H;have c6b0 : decide (x4_1 < (l0.length : Int)) = false:=decide_eq_false c6;clear c6;obtain rfl:=Option.some.inj H;go_wp2
      go_ret
      exact ⟨_,qq263,qq304,qq208⟩
  ·rw [if_neg c3] at H;exact absurd H (by simp)
 ·rw [if_neg c2] at H;exact absurd H (by simp)

/-! ### laws_toParty: function 70 -/
def laws_toParty.f (k : Nat) (a0_0 : Int) (a0_1 : Int) (l0_2 : List (S152)) (l0_3 : List Bool) : Option (Int × Int × (List (S112)) × List Bool) := (laws_toMemberS.f k l0_2).bind fun t515 => ((laws_toBoolS.f k l0_3).bind fun t518 => (some (a0_0, a0_1, t515, t518)))
set_option maxHeartbeats 8000000 in
set_option maxRecDepth 100000 in
theorem laws_toParty.calls (k : Nat) (a0_0 : Int) (a0_1 : Int) (A0_2 : Option Addr) (c0_2 : Nat) (l0_2 : List (S152)) (A0_3 : Option Addr) (c0_3 : Nat) (l0_3 : List Bool) (r1 : Int) (r2 : Int) (r3 : List (S112)) (r4 : List Bool) (w : World) (hr0_2 : Kd.C k152 w A0_2 l0_2.length l0_2) (hc0_2 : l0_2.length ≤ c0_2) (hr0_3 : Kd.C Kd.bool w A0_3 l0_3.length l0_3) (hc0_3 : l0_3.length ≤ c0_3) (h : laws_toParty.f k a0_0 a0_1 l0_2 l0_3 = some (r1, r2, r3, r4)) :
  Calls Try.prog 70 #[.agg #[.int .i64 a0_0,.int .i64 a0_1,.slice A0_2 l0_2.length c0_2,.slice A0_3 l0_3.length c0_3]] w fun e w' => ∃ v2_ v3_ : Value,e = .returned (.agg #[.int .i64 r1,.int .i64 r2,v2_,v3_]) ∧ Kd.R k112 112 w' w.heap.size (fun _ => True) v2_ r3 ∧ Kd.R Kd.bool 4 w' w.heap.size (fun _ => True) v3_ r4 ∧ Below w.heap.size w w':=by
 have hu97:=Try.underlying97;have hu27:=Try.underlying27;have HR0_2:=am hr0_2;have HC0_2:=am hc0_2;clear hr0_2 hc0_2;have HR0_3:=am hr0_3;have HC0_3:=am hc0_3;clear hr0_3 hc0_3;have HB:=am qq465;have H : ((laws_toMemberS.f k l0_2).bind fun t515 => ((laws_toBoolS.f k l0_3).bind fun t518 => (some (a0_0,a0_1,t515,t518)))) = some (r1,r2,r3,r4):=h;clear h;replace H:=bS.mp H;obtain ⟨t515,A20,H⟩:=H;(try dsimp only at H);have A2:=am A20;clear A20;replace H:=bS.mp H;obtain ⟨t518,A30,H⟩:=H;(try dsimp only at H);have A3:=am A30;clear A30;simp only [Option.some.injEq,Prod.mk.injEq] at H;obtain ⟨rfl,rfl,rfl,rfl⟩:=H
 go_enter Try.func70,Try.ntmps70
 go_wp2_with (first | ((with_reducible refine gate_dst (N:=1) rfl ?_);refine box_event ?hg (N:=1) ?hd (cs:=#[.int .i64 a0_0,.int .i64 a0_1,.slice A0_2 l0_2.length c0_2,.slice A0_3 l0_3.length c0_3]) (t:=97) ?hr ?_;(case hd => rfl);(case hg => rfl);(case hr => exact qq312);intro gb512 hg w4 hbox hb;have BK512:=am (hbox);have GW512:=am ((qq144 : w.heap.size ≤ gb512));have GE512:=am ((qq144 : w.heap.size ≤ gb512));replace HB:=am qq488;clear hb hbox hg) | ((with_reducible refine gate_dst (N:=2) rfl ?_);refine box_event ?hg (N:=2) ?hd (cs:=#[.int .i64 0,.int .i64 0,.slice none 0 0,.slice none 0 0]) (t:=27) ?hr ?_;(case hd => rfl);(case hg => rfl);(case hr => exact qq312);intro gb513 hg w5 hbox hb;have BK513:=am (hbox);have GW513:=am ((qq78 : w.heap.size ≤ gb513));have GE513:=am ((qq78 : w.heap.size ≤ gb513));replace HB:=am (below_step qq148 hb);have NB512_513:=am ((qq24 : gb512 ≠ gb513));have NB513_512:=am ((qq27 : gb513 ≠ gb512));replace BK512:=am qq353;clear hb hbox hg) | ((with_reducible refine gate_dst (N:=3) rfl ?_);refine box_event ?hg (N:=3) ?hd (cs:=#[.int .i64 0,.int .i64 0,.slice none 0 0,.slice none 0 0]) (t:=27) ?hr ?_;(case hd => rfl);(case hg => rfl);(case hr => exact qq312);intro gb514 hg w6 hbox hb;have BK514:=am (hbox);have GW514:=am ((qq59 : w.heap.size ≤ gb514));have GE514:=am ((qq59 : w.heap.size ≤ gb514));replace HB:=am (below_step qq92 hb);have NB512_514:=am ((qq24 : gb512 ≠ gb514));have NB514_512:=am ((qq27 : gb514 ≠ gb512));replace BK512:=am qq353;have NB513_514:=am ((by rw [hg];exact Nat.ne_of_lt (blk_lt (g:=gb513) (o:=.cells #[.int .i64 0,.int .i64 0,.slice none 0 0,.slice none 0 0] 27 (0,0)) qq220) : gb513 ≠ gb514));have NB514_513:=am ((by rw [hg];exact Nat.ne_of_gt (blk_lt (g:=gb513) (o:=.cells #[.int .i64 0,.int .i64 0,.slice none 0 0,.slice none 0 0] 27 (0,0)) qq220) : gb514 ≠ gb513));replace BK513:=am (blk_below (g:=gb513) (o:=.cells #[.int .i64 0,.int .i64 0,.slice none 0 0,.slice none 0 0] 27 (0,0)) qq220 hb);clear hb hbox hg;have hnb7:=NB512_513.out;have hnc7:=NB513_512.out;have hnb8:=NB512_514.out;have hnc8:=NB514_512.out;obtain ⟨hcz9_0,hcz9_1,hcz9_2,hcz9_3,hfz9_0,hfz9_1,hfz9_2,hfz9_3⟩:=bcl4 BK512.out;have hnb10:=NB514_513.out;have hnc10:=NB513_514.out;obtain ⟨hcz11_0,hcz11_1,hcz11_2,hcz11_3,hfz11_0,hfz11_1,hfz11_2,hfz11_3⟩:=bcl4 BK514.out) | ((with_reducible refine gate_callee (f:=115) rfl ?_);refine goesL_ (some 12) rfl rfl Try.func115 (by kernel_rfl) rfl #[.slice A0_2 l0_2.length c0_2] rfl qq187 ?_;(with_reducible refine (laws_toMemberS.calls k _ _ l0_2 t515 _ ?side1 ?side2 A2.out).mono ?_);(case side1 => exact Kd.C_below HR0_2.out qq67);(case side2 => exact qq334);rintro e w12 ⟨v516,rfl,ho0,hb⟩;refine ⟨_,rfl,?_⟩;have HO517:=am (Kd.R_lower ho0 (below_size qq67));replace BK512:=am (blk_below (g:=gb512) (o:=.cells #[.int .i64 a0_0,.int .i64 a0_1,.slice A0_2 l0_2.length c0_2,.slice A0_3 l0_3.length c0_3] 97 (0,0)) (by (with_reducible repeat (first | refine dN ?_ _ | refine dD ?_ | refine dA ?_ _));refine blk_far ?_ NB512_514.out _;(with_reducible repeat (first | refine dN ?_ _ | refine dD ?_ | refine dA ?_ _));refine blk_far ?_ NB512_514.out _;(with_reducible repeat (first | refine dN ?_ _ | refine dD ?_ | refine dA ?_ _));exact BK512.out) hb);replace BK513:=am (blk_below (g:=gb513) (o:=.cells #[.int .i64 0,.int .i64 0,.slice none 0 0,.slice none 0 0] 27 (0,0)) (by (with_reducible repeat (first | refine dN ?_ _ | refine dD ?_ | refine dA ?_ _));refine blk_far ?_ NB513_514.out _;(with_reducible repeat (first | refine dN ?_ _ | refine dD ?_ | refine dA ?_ _));refine blk_far ?_ NB513_514.out _;(with_reducible repeat (first | refine dN ?_ _ | refine dD ?_ | refine dA ?_ _));exact BK513.out) hb);replace BK514:=am (blk_below (g:=gb514) (o:=.cells #[.int .i64 a0_0,.int .i64 a0_1,.slice none 0 0,.slice none 0 0] 27 (0,0)) (by (with_reducible repeat (first | refine dN ?_ _ | refine dD ?_ | refine dA ?_ _));refine blk_put (cs:=#[.int .i64 a0_0,.int .i64 0,.slice none 0 0,.slice none 0 0]) ?_ 1 _ rfl;(with_reducible repeat (first | refine dN ?_ _ | refine dD ?_ | refine dA ?_ _));refine blk_put (cs:=#[.int .i64 0,.int .i64 0,.slice none 0 0,.slice none 0 0]) ?_ 0 _ rfl;(with_reducible repeat (first | refine dN ?_ _ | refine dD ?_ | refine dA ?_ _));exact BK514.out) hb);replace HB:=am (below_step qq67 hb);(try clear hb);(try clear hb2);(try clear hk);(try clear hi);(try clear ho0);obtain ⟨Ao13,co13,eo13⟩:=Kd.R_slice HO517.out;subst eo13;obtain ⟨hcz14_0,hcz14_1,hcz14_2,hcz14_3,hfz14_0,hfz14_1,hfz14_2,hfz14_3⟩:=bcl4 BK514.out;obtain ⟨hcz15_0,hcz15_1,hcz15_2,hcz15_3,hfz15_0,hfz15_1,hfz15_2,hfz15_3⟩:=bcl4 BK512.out) | ((with_reducible refine gate_callee (f:=116) rfl ?_);refine goesL_ (some 16) rfl rfl Try.func116 (by kernel_rfl) rfl #[.slice A0_3 l0_3.length c0_3] rfl qq187 ?_;(with_reducible refine (laws_toBoolS.calls k _ _ l0_3 t518 _ ?side1 ?side2 A3.out).mono ?_);(case side1 => exact Kd.C_below HR0_3.out qq67);(case side2 => exact HC0_3.out);rintro e w16 ⟨v519,rfl,ho0,hb⟩;refine ⟨_,rfl,?_⟩;replace HO517:=am (Kd.R_below (by (with_reducible repeat (first | apply kA | apply kN | apply kD));exact (Kd.R_mono (Kd.R_far (p:=⟨gb514,2,none⟩) (Kd.R_types HO517.out BK514.out (by decide)) (fun _ hk => hk.2) (.slice Ao13 t515.length co13)) (fun _ h_ => h_.1))) hb);have HO520:=am (Kd.R_lower ho0 (below_size qq67));replace BK512:=am (blk_below (g:=gb512) (o:=.cells #[.int .i64 a0_0,.int .i64 a0_1,.slice A0_2 l0_2.length c0_2,.slice A0_3 l0_3.length c0_3] 97 (0,0)) (by (with_reducible repeat (first | refine dN ?_ _ | refine dD ?_ | refine dA ?_ _));refine blk_far ?_ NB512_514.out _;(with_reducible repeat (first | refine dN ?_ _ | refine dD ?_ | refine dA ?_ _));exact BK512.out) hb);replace BK513:=am (blk_below (g:=gb513) (o:=.cells #[.int .i64 0,.int .i64 0,.slice none 0 0,.slice none 0 0] 27 (0,0)) (by (with_reducible repeat (first | refine dN ?_ _ | refine dD ?_ | refine dA ?_ _));refine blk_far ?_ NB513_514.out _;(with_reducible repeat (first | refine dN ?_ _ | refine dD ?_ | refine dA ?_ _));exact BK513.out) hb);replace BK514:=am (blk_below (g:=gb514) (o:=.cells #[.int .i64 a0_0,.int .i64 a0_1,.slice Ao13 t515.length co13,.slice none 0 0] 27 (0,0)) (by (with_reducible repeat (first | refine dN ?_ _ | refine dD ?_ | refine dA ?_ _));refine blk_put (cs:=#[.int .i64 a0_0,.int .i64 a0_1,.slice none 0 0,.slice none 0 0]) ?_ 2 _ rfl;(with_reducible repeat (first | refine dN ?_ _ | refine dD ?_ | refine dA ?_ _));exact BK514.out) hb);replace HB:=am (below_step qq67 hb);(try clear hb);(try clear hb2);(try clear hk);(try clear hi);(try clear ho0);obtain ⟨Ao17,co17,eo17⟩:=Kd.R_slice HO520.out;subst eo17;obtain ⟨hcz18_0,hcz18_1,hcz18_2,hcz18_3,hfz18_0,hfz18_1,hfz18_2,hfz18_3⟩:=bcl4 BK514.out;obtain ⟨hcz19_0,hcz19_1,hcz19_2,hcz19_3,hfz19_0,hfz19_1,hfz19_2,hfz19_3⟩:=bcl4 BK513.out))
 refine bodyPost_ret (results_cell_row rfl _ _ gb513 27 #[.int .i64 a0_0,.int .i64 a0_1,.slice Ao13 t515.length co13,.slice Ao17 t518.length co17] (0,0) _ rfl (by (with_reducible repeat (first | refine dN ?_ _ | refine dD ?_ | refine dA ?_ _));refine blk_put (cs:=#[.int .i64 a0_0,.int .i64 a0_1,.slice Ao13 t515.length co13,.slice none 0 0]) ?_ 3 _ rfl;(with_reducible repeat (first | refine dN ?_ _ | refine dD ?_ | refine dA ?_ _));refine blk_put (cs:=#[.int .i64 a0_0,.int .i64 a0_1,.slice none 0 0,.slice none 0 0]) ?_ 2 _ rfl;(with_reducible repeat (first | refine dN ?_ _ | refine dD ?_ | refine dA ?_ _));refine blk_put (cs:=#[.int .i64 a0_0,.int .i64 0,.slice none 0 0,.slice none 0 0]) ?_ 1 _ rfl;(with_reducible repeat (first | refine dN ?_ _ | refine dD ?_ | refine dA ?_ _));refine blk_put (cs:=#[.int .i64 0,.int .i64 0,.slice none 0 0,.slice none 0 0]) ?_ 0 _ rfl;(with_reducible repeat (first | refine dN ?_ _ | refine dD ?_ | refine dA ?_ _));refine blk_far ?_ NB513_514.out _;(with_reducible repeat (first | refine dN ?_ _ | refine dD ?_ | refine dA ?_ _));exact BK513.out) Try.underlying27 rfl (by kernel_rfl)) rfl ?_;exact ⟨_,_,qq263,by (with_reducible repeat (first | apply kA | apply kN | apply kD));exact Kd.R_mono (Kd.R_far (p:=⟨gb513,3,none⟩) (Kd.R_far (p:=⟨gb513,2,none⟩) (Kd.R_far (p:=⟨gb513,1,none⟩) (Kd.R_far (p:=⟨gb513,0,none⟩) (Kd.R_far (p:=⟨gb514,3,none⟩) (Kd.R_types (Kd.R_types HO517.out BK514.out (by decide)) BK513.out (by decide)) (fun _ hk => hk.1.2) (.slice Ao17 t518.length co17)) (fun _ hk => hk.2) (.int .i64 a0_0)) (fun _ hk => hk.2) (.int .i64 a0_1)) (fun _ hk => hk.2) (.slice Ao13 t515.length co13)) (fun _ hk => hk.2) (.slice Ao17 t518.length co17)) (fun _ hk => trivial),by (with_reducible repeat (first | apply kA | apply kN | apply kD));exact Kd.R_mono (Kd.R_far (p:=⟨gb513,3,none⟩) (Kd.R_far (p:=⟨gb513,2,none⟩) (Kd.R_far (p:=⟨gb513,1,none⟩) (Kd.R_far (p:=⟨gb513,0,none⟩) (Kd.R_far (p:=⟨gb514,3,none⟩) (Kd.R_types (Kd.R_types HO520.out BK514.out (by decide)) BK513.out (by decide)) (fun _ hk => hk.1.2) (.slice Ao17 t518.length co17)) (fun _ hk => hk.2) (.int .i64 a0_0)) (fun _ hk => hk.2) (.int .i64 a0_1)) (fun _ hk => hk.2) (.slice Ao13 t515.length co13)) (fun _ hk => hk.2) (.slice Ao17 t518.length co17)) (fun _ hk => trivial),qq67⟩

/-! ### laws_eqMember: function 141 -/
def laws_eqMember.f (a0_0 : Int) (a0_1 : Int) (a0_2 : Int) (a0_3 : Bool) (a1_0 : Int) (a1_1 : Int) (a1_2 : Int) (a1_3 : Bool) : Option (Bool) := if a0_0 = a1_0 then (if a0_1 = a1_1 then (if a0_2 = a1_2 then (if (a0_3 != a1_3) = true then (some false) else (some true)) else (some false)) else (some false)) else (some false)
set_option maxHeartbeats 8000000 in
set_option maxRecDepth 100000 in
theorem laws_eqMember.calls (a0_0 : Int) (a0_1 : Int) (a0_2 : Int) (a0_3 : Bool) (a1_0 : Int) (a1_1 : Int) (a1_2 : Int) (a1_3 : Bool) (r : Bool) (w : World) (h : laws_eqMember.f a0_0 a0_1 a0_2 a0_3 a1_0 a1_1 a1_2 a1_3 = some r) :
  Calls Try.prog 141 #[.agg #[.int .i64 a0_0,.int .i64 a0_1,.int .i64 a0_2,.bool a0_3],.agg #[.int .i64 a1_0,.int .i64 a1_1,.int .i64 a1_2,.bool a1_3]] w fun e w' => e = .returned (.bool r) ∧ Below w.heap.size w w':=by
 have hu112:=Try.underlying112;have HB:=am qq465;have H : (if a0_0 = a1_0 then (if a0_1 = a1_1 then (if a0_2 = a1_2 then (if (a0_3 != a1_3) = true then (some false) else (some true)) else (some false)) else (some false)) else (some false)) = some r:=h;clear h
 by_cases c3 : a0_0 = a1_0
 ·rw [if_pos c3] at H;have c3b0 : (a0_0 == a1_0) = true:=beq_iff_eq.mpr c3;have c3b1 : (a0_0 != a1_0) = false:=bne_eq_false_iff_eq.mpr c3;clear c3
  by_cases c4 : a0_1 = a1_1
  ·rw [if_pos c4] at H;have c4b0 : (a0_1 == a1_1) = true:=beq_iff_eq.mpr c4;have c4b1 : (a0_1 != a1_1) = false:=bne_eq_false_iff_eq.mpr c4;clear c4
   by_cases c5 : a0_2 = a1_2
   ·rw [if_pos c5] at H;have c5b0 : (a0_2 == a1_2) = true:=beq_iff_eq.mpr c5;have c5b1 : (a0_2 != a1_2) = false:=bne_eq_false_iff_eq.mpr c5;clear c5
    by_cases c6 : (a0_3 != a1_3) = true
    ·rw [if_pos c6] at H;have c6b0 : (a0_3 != a1_3) = true:=c6;(try (have c6b1 : decide (a0_3 = a1_3) = false:=by simpa using c6));(try (have c6b2 : (a0_3 == a1_3) = false:=by simpa using c6));(try (have c6b3 : ¬ (a0_3 = a1_3):=by simpa using c6));clear c6;obtain rfl:=Option.some.inj H
     go_enter Try.func141,Try.ntmps141
     go_wp2_with (first | ((with_reducible refine gate_dst (N:=2) rfl ?_);refine box_event ?hg (N:=2) ?hd (cs:=#[.int .i64 a0_0,.int .i64 a0_1,.int .i64 a0_2,.bool a0_3]) (t:=112) ?hr ?_;(case hd => rfl);(case hg => rfl);(case hr => exact qq312);intro gb521 hg w7 hbox hb;have BK521:=am (hbox);have GW521:=am qq453;have GE521:=am qq453;replace HB:=am qq488;clear hb hbox hg) | ((with_reducible refine gate_dst (N:=3) rfl ?_);refine box_event ?hg (N:=3) ?hd (cs:=#[.int .i64 a1_0,.int .i64 a1_1,.int .i64 a1_2,.bool a1_3]) (t:=112) ?hr ?_;(case hd => rfl);(case hg => rfl);(case hr => exact qq312);intro gb522 hg w8 hbox hb;have BK522:=am (hbox);have GW522:=am qq459;have GE522:=am qq459;replace HB:=am (below_step qq147 hb);have NB521_522:=am qq466;have NB522_521:=am qq467;replace BK521:=am qq391;clear hb hbox hg;have hnb9:=NB521_522.out;have hnc9:=NB522_521.out;obtain ⟨hcz10_0,hcz10_1,hcz10_2,hcz10_3,hfz10_0,hfz10_1,hfz10_2,hfz10_3⟩:=bcl4 BK521.out;obtain ⟨hcz11_0,hcz11_1,hcz11_2,hcz11_3,hfz11_0,hfz11_1,hfz11_2,hfz11_3⟩:=bcl4 BK522.out))
     go_ret
     exact ⟨qq263,qq91⟩
    ·rw [if_neg c6] at H;have c6b0 : (a0_3 != a1_3) = false:=by simpa using c6
     (try (have c6b1 : decide (a0_3 = a1_3) = true:=by simpa using c6));(try (have c6b2 : (a0_3 == a1_3) = true:=by simpa using c6));clear c6;obtain rfl:=Option.some.inj H
     go_enter Try.func141,Try.ntmps141
     go_wp2_with (first | ((with_reducible refine gate_dst (N:=2) rfl ?_);refine box_event ?hg (N:=2) ?hd (cs:=#[.int .i64 a0_0,.int .i64 a0_1,.int .i64 a0_2,.bool a0_3]) (t:=112) ?hr ?_;(case hd => rfl);(case hg => rfl);(case hr => exact qq312);intro gb521 hg w12 hbox hb;have BK521:=am (hbox);have GW521:=am qq453;have GE521:=am qq453;replace HB:=am qq488;clear hb hbox hg) | ((with_reducible refine gate_dst (N:=3) rfl ?_);refine box_event ?hg (N:=3) ?hd (cs:=#[.int .i64 a1_0,.int .i64 a1_1,.int .i64 a1_2,.bool a1_3]) (t:=112) ?hr ?_;(case hd => rfl);(case hg => rfl);(case hr => exact qq312);intro gb522 hg w13 hbox hb;have BK522:=am (hbox);have GW522:=am qq459;have GE522:=am qq459;replace HB:=am (below_step qq147 hb);have NB521_522:=am qq466;have NB522_521:=am qq467;replace BK521:=am qq391;clear hb hbox hg;have hnb14:=NB521_522.out;have hnc14:=NB522_521.out;obtain ⟨hcz15_0,hcz15_1,hcz15_2,hcz15_3,hfz15_0,hfz15_1,hfz15_2,hfz15_3⟩:=bcl4 BK521.out;obtain ⟨hcz16_0,hcz16_1,hcz16_2,hcz16_3,hfz16_0,hfz16_1,hfz16_2,hfz16_3⟩:=bcl4 BK522.out))
     go_ret
     exact ⟨qq263,qq91⟩
   ·rw [if_neg c5] at H;have c5b0 : (a0_2 == a1_2) = false:=beq_eq_false_iff_ne.mpr c5;have c5b1 : (a0_2 != a1_2) = true:=bne_iff_ne.mpr c5;obtain rfl:=Option.some.inj H
    go_enter Try.func141,Try.ntmps141
    go_wp2_with (first | ((with_reducible refine gate_dst (N:=2) rfl ?_);refine box_event ?hg (N:=2) ?hd (cs:=#[.int .i64 a0_0,.int .i64 a0_1,.int .i64 a0_2,.bool a0_3]) (t:=112) ?hr ?_;(case hd => rfl);(case hg => rfl);(case hr => exact qq312);intro gb521 hg w17 hbox hb;have BK521:=am (hbox);have GW521:=am qq453;have GE521:=am qq453;replace HB:=am qq488;clear hb hbox hg) | ((with_reducible refine gate_dst (N:=3) rfl ?_);refine box_event ?hg (N:=3) ?hd (cs:=#[.int .i64 a1_0,.int .i64 a1_1,.int .i64 a1_2,.bool a1_3]) (t:=112) ?hr ?_;(case hd => rfl);(case hg => rfl);(case hr => exact qq312);intro gb522 hg w18 hbox hb;have BK522:=am (hbox);have GW522:=am qq459;have GE522:=am qq459;replace HB:=am (below_step qq147 hb);have NB521_522:=am qq466;have NB522_521:=am qq467;replace BK521:=am qq391;clear hb hbox hg;have hnb19:=NB521_522.out;have hnc19:=NB522_521.out;obtain ⟨hcz20_0,hcz20_1,hcz20_2,hcz20_3,hfz20_0,hfz20_1,hfz20_2,hfz20_3⟩:=bcl4 BK521.out;obtain ⟨hcz21_0,hcz21_1,hcz21_2,hcz21_3,hfz21_0,hfz21_1,hfz21_2,hfz21_3⟩:=bcl4 BK522.out))
    go_ret
    exact ⟨qq263,qq91⟩
  ·rw [if_neg c4] at H;have c4b0 : (a0_1 == a1_1) = false:=beq_eq_false_iff_ne.mpr c4;have c4b1 : (a0_1 != a1_1) = true:=bne_iff_ne.mpr c4;obtain rfl:=Option.some.inj H
   go_enter Try.func141,Try.ntmps141
   go_wp2_with (first | ((with_reducible refine gate_dst (N:=2) rfl ?_);refine box_event ?hg (N:=2) ?hd (cs:=#[.int .i64 a0_0,.int .i64 a0_1,.int .i64 a0_2,.bool a0_3]) (t:=112) ?hr ?_;(case hd => rfl);(case hg => rfl);(case hr => exact qq312);intro gb521 hg w22 hbox hb;have BK521:=am (hbox);have GW521:=am qq453;have GE521:=am qq453;replace HB:=am qq488;clear hb hbox hg) | ((with_reducible refine gate_dst (N:=3) rfl ?_);refine box_event ?hg (N:=3) ?hd (cs:=#[.int .i64 a1_0,.int .i64 a1_1,.int .i64 a1_2,.bool a1_3]) (t:=112) ?hr ?_;(case hd => rfl);(case hg => rfl);(case hr => exact qq312);intro gb522 hg w23 hbox hb;have BK522:=am (hbox);have GW522:=am qq459;have GE522:=am qq459;replace HB:=am (below_step qq147 hb);have NB521_522:=am qq466;have NB522_521:=am qq467;replace BK521:=am qq391;clear hb hbox hg;have hnb24:=NB521_522.out;have hnc24:=NB522_521.out;obtain ⟨hcz25_0,hcz25_1,hcz25_2,hcz25_3,hfz25_0,hfz25_1,hfz25_2,hfz25_3⟩:=bcl4 BK521.out;obtain ⟨hcz26_0,hcz26_1,hcz26_2,hcz26_3,hfz26_0,hfz26_1,hfz26_2,hfz26_3⟩:=bcl4 BK522.out))
   go_ret
   exact ⟨qq263,qq91⟩
 ·rw [if_neg c3] at H;have c3b0 : (a0_0 == a1_0) = false:=beq_eq_false_iff_ne.mpr c3;have c3b1 : (a0_0 != a1_0) = true:=bne_iff_ne.mpr c3;obtain rfl:=Option.some.inj H
  go_enter Try.func141,Try.ntmps141
  go_wp2_with (first | ((with_reducible refine gate_dst (N:=2) rfl ?_);refine box_event ?hg (N:=2) ?hd (cs:=#[.int .i64 a0_0,.int .i64 a0_1,.int .i64 a0_2,.bool a0_3]) (t:=112) ?hr ?_;(case hd => rfl);(case hg => rfl);(case hr => exact qq312);intro gb521 hg w27 hbox hb;have BK521:=am (hbox);have GW521:=am qq453;have GE521:=am qq453;replace HB:=am qq488;clear hb hbox hg) | ((with_reducible refine gate_dst (N:=3) rfl ?_);refine box_event ?hg (N:=3) ?hd (cs:=#[.int .i64 a1_0,.int .i64 a1_1,.int .i64 a1_2,.bool a1_3]) (t:=112) ?hr ?_;(case hd => rfl);(case hg => rfl);(case hr => exact qq312);intro gb522 hg w28 hbox hb;have BK522:=am (hbox);have GW522:=am qq459;have GE522:=am qq459;replace HB:=am (below_step qq147 hb);have NB521_522:=am qq466;have NB522_521:=am qq467;replace BK521:=am qq391;clear hb hbox hg;have hnb29:=NB521_522.out;have hnc29:=NB522_521.out;obtain ⟨hcz30_0,hcz30_1,hcz30_2,hcz30_3,hfz30_0,hfz30_1,hfz30_2,hfz30_3⟩:=bcl4 BK521.out;obtain ⟨hcz31_0,hcz31_1,hcz31_2,hcz31_3,hfz31_0,hfz31_1,hfz31_2,hfz31_3⟩:=bcl4 BK522.out))
  go_ret
  exact ⟨qq263,qq91⟩

end Go.Proofs.Ytcbkknpmeknppaa.PFnExactPlanFood
