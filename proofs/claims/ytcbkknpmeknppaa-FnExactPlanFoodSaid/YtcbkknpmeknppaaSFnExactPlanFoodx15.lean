/- Contracts of functions that the law FnExactPlanFood reaches, for its row: lines that the kit's printer wrote for this claim, set shorter by a program of this session (own.py), and what fell in Lean proved anew. Lean checks them. -/
import Derived.Test.YtcbkknpmeknppaaSFnExactPlanFoodx0
import Derived.Test.YtcbkknpmeknppaaSFnExactPlanFoodx13
import Derived.Test.YtcbkknpmeknppaaSFnExactPlanFoodx14
namespace Go.Proofs.Ytcbkknpmeknppaa.PFnExactPlanFood
open Go.RowKit Go.Proofs.YtcbkknpmeknppaaW.PrintWords Go.Proofs.YtcbkknpmeknppaaW.PrintLast Go.Proofs.YtcbkknpmeknppaaW.PrintMore
attribute [local go_sem] max2_int min2_int max_two min_two max_three min_three max_four min_four   -- for this text's walks alone
set_option linter.unusedVariables false
set_option linter.unusedSimpArgs false

/-! ### spec_PlanCells: function 61 -/
mutual
def spec_PlanCells.l0 : Nat → List (S76) → List Int → Int → Int → Int → List Int → Option (List Int)
 | 0,_,_,_,_,_,_ => none
 | k + 1,x2,x7,x8,x424000,x424001,x424002 => if x8 < (x2.length : Int) then (if 0 ≤ (wrap64 ((x7.length : Int) - 1)) then (if (wrap64 ((x7.length : Int) - 1)) < (x7.length : Int) then (if 0 ≤ x8 then ((spec_WayTo.f k x424000 x424001 x424002 (rd x7 (wrap64 ((x7.length : Int) - 1))) ((rd_T76 x2 x8).f0)).bind fun t433 => (if 1 ≤ (t433.length : Int) then ((some (t433.drop 1 : List Int)).bind fun y436 => (if x7.length + y436.length < 17592186044416 then (spec_PlanCells.l1 k x2 (x7 ++ y436) x8 0 x424000 x424001 x424002) else (none))) else (none))) else (none)) else (none)) else (none)) else (some x7)
def spec_PlanCells.l1 : Nat → List (S76) → List Int → Int → Int → Int → Int → List Int → Option (List Int)
 | 0,_,_,_,_,_,_,_ => none
 | k + 1,x2,x7,x8,x9,x424000,x424001,x424002 => if 0 ≤ x8 then (if x8 < (x2.length : Int) then (if x9 < ((rd_T76 x2 x8).f1) then (if x7.length < 17592186044416 then (spec_PlanCells.l1 k x2 (x7 ++ [(rd_T76 x2 x8).f0]) x8 (wrap64 (x9 + 1)) x424000 x424001 x424002) else (none)) else (spec_PlanCells.l0 k x2 x7 (wrap64 (x8 + 1)) x424000 x424001 x424002)) else (none)) else (none)
end
def spec_PlanCells.f (k : Nat) (a0_0 : Int) (a0_1 : Int) (l0_2 : List Int) (a1 : Int) (l2 : List (S76)) : Option (List Int) := (some (([] : List Int) : List Int)).bind fun y424 => ((spec_IsPlan.f k a0_0 a0_1 l0_2 a1 l2).bind fun t427 => (if t427 = true then (if y424.length < 17592186044416 then (spec_PlanCells.l0 k l2 (y424 ++ [a1]) 0 a0_0 a0_1 l0_2) else (none)) else (some y424)))
def spec_PlanCells.T8 : Bool × List (List Nat × List Nat) := (true, [([], []), ([], []), ([], []), ([], []), ([3], [3]), ([4], [4]), ([2, 5], [2, 5]), ([6], [6]), ([], []), ([], []), ([8, 9], [8, 9]), ([10], [10]), ([11], [11]), ([1, 7, 12], [1, 7, 12]), ([13], [13]), ([0, 14, 13], [0, 14]), ([15, 15, 0, 1, 2, 3, 4, 5, 6, 7, 8, 9, 10, 11, 12, 13, 14, 15], [0, 2, 3, 15])])
def spec_PlanCells.B8 : List Nat := [0, 0, 0, 0, 8, 24, 60, 124, 0, 0, 768, 1792, 3840, 8190, 16382, 32767, 65535]
theorem spec_PlanCells.tab8 : rtab .any (opsOf Try.f61 8) = spec_PlanCells.T8 := by kernel_rfl
theorem spec_PlanCells.bits8 : waitsOk spec_PlanCells.T8.2 spec_PlanCells.B8 = true := by kernel_rfl
set_option maxHeartbeats 8000000 in
set_option maxRecDepth 100000 in
theorem spec_PlanCells.calls (k : Nat) (a0_0 : Int) (a0_1 : Int) (A0_2 : Option Addr) (c0_2 : Nat) (l0_2 : List Int) (a1 : Int) (A2 : Option Addr) (c2 : Nat) (l2 : List (S76)) (r : List Int) (w : World) (hr0_2 : Kd.C (Kd.int .i64) w A0_2 l0_2.length l0_2) (hc0_2 : l0_2.length ≤ c0_2) (hr2 : Kd.C k76 w A2 l2.length l2) (hc2 : l2.length ≤ c2) (h : spec_PlanCells.f k a0_0 a0_1 l0_2 a1 l2 = some r) :
  Calls Try.prog 61 #[.agg #[.int .i64 a0_0,.int .i64 a0_1,.slice A0_2 l0_2.length c0_2],.int .i64 a1,.slice A2 l2.length c2] w fun e w' => ∃ v0_ : Value,e = .returned (v0_) ∧ Kd.R (Kd.int .i64) 3 w' w.heap.size (fun _ => True) v0_ r ∧ Below w.heap.size w w':=by
 have hu51:=Try.underlying51;have HR0_2:=am hr0_2;have HC0_2:=am hc0_2;clear hr0_2 hc0_2;have HR2:=am hr2;have HC2:=am hc2;clear hr2 hc2;have HB:=am qq465;have H : ((some (([] : List Int) : List Int)).bind fun y424 => ((spec_IsPlan.f k a0_0 a0_1 l0_2 a1 l2).bind fun t427 => (if t427 = true then (if y424.length < 17592186044416 then (spec_PlanCells.l0 k l2 (y424 ++ [a1]) 0 a0_0 a0_1 l0_2) else (none)) else (some y424)))) = some r:=h;clear h;obtain ⟨y424,hy424⟩ : ∃ y_ : List Int,y_ = (([] : List Int)):=⟨_,rfl⟩
 replace H : ((spec_IsPlan.f k a0_0 a0_1 l0_2 a1 l2).bind fun t427 => (if t427 = true then (if y424.length < 17592186044416 then (spec_PlanCells.l0 k l2 (y424 ++ [a1]) 0 a0_0 a0_1 l0_2) else (none)) else (some y424))) = some r:=by first | (rw [hy424];with_reducible exact H) | (have H2_:=(Option.bind_some _ _).symm.trans H;rw [hy424];with_reducible exact H2_) | (have H2_:=(Option.bind_some _ _).symm.trans H;with_reducible exact H2_) | with_reducible exact H | (rw [hy424];exact H) | exact H
 have Ny424:=am hy424;clear hy424;replace H:=bS.mp H;obtain ⟨t427,A40,H⟩:=H;(try dsimp only at H);have A4:=am A40;clear A40
 by_cases c5 : t427 = true
 ·subst c5;rw [if_pos rfl] at H
  by_cases c6 : y424.length < 17592186044416
  ·rw [if_pos c6] at H;have LMc6:=am c6;clear c6;obtain ⟨y428,hy428⟩ : ∃ y_ : List Int,y_ = (y424 ++ [a1]):=⟨_,rfl⟩
   replace H : (spec_PlanCells.l0 k l2 y428 0 a0_0 a0_1 l0_2) = some r:=by first | (rw [hy428];with_reducible exact H) | (have H2_:=(Option.bind_some _ _).symm.trans H;rw [hy428];with_reducible exact H2_) | (have H2_:=(Option.bind_some _ _).symm.trans H;with_reducible exact H2_) | with_reducible exact H | (rw [hy428];exact H) | exact H
   have Ny428:=am hy428;clear hy428;have H':=am H;clear H
   go_enter Try.func61,Try.ntmps61
   go_wp2_with (first | ((with_reducible refine gate_dst (N:=3) rfl ?_);refine box_event ?hg (N:=3) ?hd (cs:=#[.int .i64 a0_0,.int .i64 a0_1,.slice A0_2 l0_2.length c0_2]) (t:=51) ?hr ?_;(case hd => rfl);(case hg => rfl);(case hr => exact qq312);intro gb423 hg w7 hbox hb;have BK423:=am (hbox);have GW423:=am qq450;have GE423:=am qq450;replace HB:=am qq488;clear hb hbox hg) | ((with_reducible refine gate_dst (N:=10) rfl ?_);refine Kd.R_lit (Kd.int .i64) _ 3 ?hg (N:=10) ?hd (xs:=([] : List Int)) (inner:=[]) (ok:=fun _ => True) (okp:=fun _ => True) ?hr ?hp (fun _ hk => hk) trivial (Below.refl _ _) (Nat.le_refl _) (by simp) ?_;(case hd => rfl);(case hg => rfl);(case hr => exact qq312);(case hp => exact qq330);intro v425 w8 ho9 hb hg_ hnew_;clear hg_ hnew_;(first | rw [← Ny424.out] at ho9 | (simp only [Int.reduceToNat] at ho9;rw [← Ny424.out] at ho9));have HO426:=am (Kd.R_lower ho9 (below_size qq156));replace BK423:=am qq385;replace HB:=am (below_step qq156 hb);clear hb ho9;obtain ⟨hcz10_0,hcz10_1,hcz10_2,hfz10_0,hfz10_1,hfz10_2⟩:=bcl3 BK423.out) | ((with_reducible refine gate_callee (f:=55) rfl ?_);refine goesL_ (some 14) rfl rfl Try.func55 (by kernel_rfl) rfl #[.agg #[.int .i64 a0_0,.int .i64 a0_1,.slice A0_2 l0_2.length c0_2],.int .i64 a1,.slice A2 l2.length c2] rfl qq187 ?_;(with_reducible refine (spec_IsPlan.calls k a0_0 a0_1 _ _ l0_2 a1 _ _ l2 true _ ?side1 ?side2 ?side3 ?side4 A4.out).mono ?_);(case side1 => exact qq117);(case side2 => exact qq334);(case side3 => exact qq131);(case side4 => exact HC2.out);rintro e w11 ⟨rfl,hb⟩;refine ⟨_,rfl,?_⟩;replace HO426:=am (Kd.R_below qq287 hb);replace BK423:=am qq385;replace HB:=am (below_step qq156 hb);(try clear hb);(try clear hb2);(try clear hk);(try clear hi)) | ((with_reducible refine gate_builtin (b:=.append) (xs:=#[.tmp 17,.tmp 19]) rfl ?_);at_builtin;refine Kd.R_append (Kd.int .i64) (w0:=w) w.heap.size rfl (.tmp 17) (.tmp 19) 49 3 (.int .i64 0) 8 rfl Try.underlying49 info3 rfl (by decide) (by omega) v425 y424 a1 [.int .i64 a1] (fun _ => True) (fun _ => False) rfl rfl ?aP (fun _ hk => hk.elim) ?aF ?aO ?aB ?aS ?aL ?_;(case aP => exact rfl);(case aB => exact qq136);(case aF => exact qq328);(case aO => exact qq287);(case aS => exact qq107);(case aL => have:=LMc6.out;omega);intro v429 w12 ho hb hg hat;rw [← Ny428.out] at ho;replace BK423:=am (blk_grown (g:=gb423) (o:=.cells #[.int .i64 a0_0,.int .i64 a0_1,.slice A0_2 l0_2.length c0_2] 51 (0,0)) qq231 hg (Kd.R_ne HO426.out BK423.out (by decide)));replace HB:=am (hb);have HO430:=am (ho);clear HO426;clear ho hb hg hat))
   go_loopg [7,8] k (fun kq v7 v8 w' => ∃ (x7_1 : List Int) (x8_1 : Int),v8 = .int .i64 x8_1 ∧ Aside0 (spec_PlanCells.l0 kq l2 x7_1 x8_1 a0_0 a0_1 l0_2 = some r) ∧ Aside0 (kq ≤ k) ∧ Aside0 (Kd.R (Kd.int .i64) 3 w' w.heap.size (fun _ => True) v7 x7_1) ∧ Aside0 (w'.heap[gb423]? = some (.cells #[.int .i64 a0_0,.int .i64 a0_1,(.slice A0_2 l0_2.length c0_2)] 51 (0,0))) ∧ Aside0 (Below w.heap.size w w'))
   case atStart => exact ⟨(y428),(0),qq311,H',⟨Nat.le_refl _⟩,⟨by (with_reducible repeat (first | apply kA | apply kN | apply kD));exact HO430.out⟩,⟨qq231⟩,⟨qq156⟩⟩
   case round =>
    clear H'
    try clear c2
    try clear p2
    try clear c5
    try clear c6
    try clear hcz10_0
    try clear hcz10_1
    try clear hcz10_2
    try clear hfz10_0
    try clear hfz10_1
    try clear hfz10_2
    obtain ⟨x7_1,x8_1,rfl,HA,HK1,HO_7,BK423,HB⟩:=hrel
    cases gk with
    | zero => exact absurd HA.out (by simp [spec_PlanCells.l0])
    | succ k1 =>
     have H:=HA.out;clear HA;simp only [spec_PlanCells.l0] at H
     by_cases c13 : x8_1 < (l2.length : Int)
     ·rw [if_pos c13] at H;have c13b0 : decide (x8_1 < (l2.length : Int)) = true:=decide_eq_true c13;clear c13;obtain ⟨ji14,hji14⟩ : ∃ j_ : Int,(wrap64 ((x7_1.length : Int) - 1)) = j_:=⟨_,rfl⟩
      replace H : (if 0 ≤ (ji14) then (if (ji14) < (x7_1.length : Int) then (if 0 ≤ x8_1 then ((spec_WayTo.f k1 a0_0 a0_1 l0_2 (rd x7_1 (ji14)) ((rd_T76 l2 x8_1).f0)).bind fun t433 => (if 1 ≤ (t433.length : Int) then ((some (t433.drop 1 : List Int)).bind fun y436 => (if x7_1.length + y436.length < 17592186044416 then (spec_PlanCells.l1 k1 l2 (x7_1 ++ y436) x8_1 0 a0_0 a0_1 l0_2) else (none))) else (none))) else (none)) else (none)) else (none)) = some r:=by first | (rw [hji14] at H;exact H) | (simp only [hji14] at H ⊢;exact H)
      have hji14w : (IntKind.i64.wrap ((x7_1.length : Int) - 1)) = ji14:=(i64_w _).trans hji14
      by_cases c15 : 0 ≤ (ji14)
      ·rw [if_pos c15] at H;have c15b0 : decide (0 ≤ (ji14)) = true:=decide_eq_true c15;clear c15
       by_cases c16 : (ji14) < (x7_1.length : Int)
       ·rw [if_pos c16] at H;have c16b0 : decide ((ji14) < (x7_1.length : Int)) = true:=decide_eq_true c16;clear c16
        by_cases c17 : 0 ≤ x8_1
        ·rw [if_pos c17] at H;have c17b0 : decide (0 ≤ x8_1) = true:=decide_eq_true c17;clear c17;replace H:=bS.mp H;obtain ⟨t433,A180,H⟩:=H;(try dsimp only at H);have A18:=am A180;clear A180
         by_cases c19 : 1 ≤ (t433.length : Int)
         ·rw [if_pos c19] at H;have c19b0:=eq_true c19;have c19b1 : decide (1 ≤ (t433.length : Int)) = true:=decide_eq_true c19;clear c19;obtain ⟨y436,hy436⟩ : ∃ y_ : List Int,y_ = (t433.drop 1):=⟨_,rfl⟩
          replace H : (if x7_1.length + y436.length < 17592186044416 then (spec_PlanCells.l1 k1 l2 (x7_1 ++ y436) x8_1 0 a0_0 a0_1 l0_2) else (none)) = some r:=by first | (rw [hy436];with_reducible exact H) | (have H2_:=(Option.bind_some _ _).symm.trans H;rw [hy436];with_reducible exact H2_) | (have H2_:=(Option.bind_some _ _).symm.trans H;with_reducible exact H2_) | with_reducible exact H | (rw [hy436];exact H) | exact H
          have Ny436:=am hy436;clear hy436
          by_cases c20 : x7_1.length + y436.length < 17592186044416
          ·rw [if_pos c20] at H;have LMc20:=am c20;clear c20;obtain ⟨y440,hy440⟩ : ∃ y_ : List Int,y_ = (x7_1 ++ y436):=⟨_,rfl⟩
           replace H : (spec_PlanCells.l1 k1 l2 y440 x8_1 0 a0_0 a0_1 l0_2) = some r:=by first | (rw [hy440];with_reducible exact H) | (have H2_:=(Option.bind_some _ _).symm.trans H;rw [hy440];with_reducible exact H2_) | (have H2_:=(Option.bind_some _ _).symm.trans H;with_reducible exact H2_) | with_reducible exact H | (rw [hy440];exact H) | exact H
           have Ny440:=am hy440;clear hy440;have H':=am H;clear H
           try go_wp2
           replace HO_7:=am (Kd.R_drew HO_7.out);replace BK423:=am (blk_drew BK423.out);replace HB:=am qq519;obtain ⟨Ao22,co22,eo22⟩:=Kd.R_slice HO_7.out;(first | subst eo22 | (injection eo22 with f1_ f2_ f3_;have f4_:=f1_.symm;have f5_:=f3_.symm;clear f1_ f2_ f3_;subst f4_;subst f5_));have p431 : 0 ≤ ((ji14) : Int):=odt qq309;have q431 : (ji14) < (x7_1.length : Int):=odt qq309;obtain ⟨ad431,e431,hx431_0⟩:=Kd.at_int (Kd.R_reads' HO_7.out).2.2 (ji14) p431 q431
           cases e431
           replace p431:=eq_true p431;replace q431:=eq_true q431;have p432 : 0 ≤ (x8_1 : Int):=odt qq309;have q432 : x8_1 < (l2.length : Int):=odt qq309;obtain ⟨ad432,e432,hx432_0,hx432_1⟩:=at_T76 HR2.out x8_1 p432 q432;have hw432_1:=hx432_1;have hw432_0:=hx432_0
           cases e432
           replace hx432_0:=(ct HB.out hx432_0 :)
           replace hx432_1:=(ct HB.out hx432_1 :)
           replace p432:=eq_true p432;replace q432:=eq_true q432;refine start_ (n:=17) (S:=fun w' => w'.cell? ⟨gb423,0,none⟩ = some (.int .i64 a0_0) ∧ w'.cell? ⟨gb423,1,none⟩ = some (.int .i64 a0_1) ∧ w'.cell? ⟨gb423,2,none⟩ = some (.slice A0_2 l0_2.length c0_2) ∧ w'.cell? (ad431.add ((ji14)).toNat) = some (.int .i64 (rd x7_1 (ji14))) ∧ w'.cell? (ad432.add ((x8_1).toNat * 2)) = some (.int .i64 ((rd_T76 l2 x8_1).f0)) ∧ w'.cell? ⟨(ad432.add ((x8_1).toNat * 2)).block,(ad432.add ((x8_1).toNat * 2)).off + 1,none⟩ = some (.int .i64 ((rd_T76 l2 x8_1).f1))) (ds:=[15]) #[Z,Z,Z,Z,Z,Z,Z,Z,Z,Z,Z,Z,Z,Z,Z,Z,Z] (by kernel_rfl) rfl rfl ⟨(blk_cell BK423.out 0).trans rfl,(blk_cell BK423.out 1).trans rfl,(blk_cell BK423.out 2).trans rfl,hx431_0,(ct HB.out hw432_0 :),(ct HB.out hw432_1 :)⟩ (fun hHeld => ?_);refine with_tabW spec_PlanCells.tab8 spec_PlanCells.bits8 (fun HT_ HW_ => ?_)
           generalize wr.drew = w21 at HO_7 BK423 HB hx431_0 hx432_0 hx432_1 hHeld ⊢
           refine pV (i:=0) (N:=some 27) #[Y,Z,Z,Z,Z,Z,Z,Z,Z,Z,Z,Z,Z,Z,Z,Z,Z] rfl rfl qT ?_
           refine pV (i:=2) (N:=some 29) #[Y,Z,Y,Z,Z,Z,Z,Z,Z,Z,Z,Z,Z,Z,Z,Z,Z] rfl rfl qT ?_
           refine pV (i:=3) (N:=some 30) #[Y,Z,Y,Y,Z,Z,Z,Z,Z,Z,Z,Z,Z,Z,Z,Z,Z] rfl rfl qT ?_
           refine pV (i:=4) (N:=some 31) #[Y,Z,Y,Y,Y,Z,Z,Z,Z,Z,Z,Z,Z,Z,Z,Z,Z] rfl rfl qT ?_
           refine pV (i:=5) (N:=some 32) #[Y,Z,Y,Y,Y,Y,Z,Z,Z,Z,Z,Z,Z,Z,Z,Z,Z] rfl rfl qT ?_
           refine pV (i:=6) (N:=some 33) #[Y,Z,Y,Y,Y,Y,Y,Z,Z,Z,Z,Z,Z,Z,Z,Z,Z] rfl rfl qT ?_
           refine pV (i:=8) (N:=some 35) #[Y,Z,Y,Y,Y,Y,Y,Z,Y,Z,Z,Z,Z,Z,Z,Z,Z] rfl rfl qT ?_
           refine pV (i:=9) (N:=some 36) #[Y,Z,Y,Y,Y,Y,Y,Z,Y,Y,Z,Z,Z,Z,Z,Z,Z] rfl rfl qT ?_
           refine pV (i:=10) (N:=some 37) #[Y,Z,Y,Y,Y,Y,Y,Z,Y,Y,Y,Z,Z,Z,Z,Z,Z] rfl rfl qT ?_
           refine pV (i:=11) (N:=some 38) #[Y,Z,Y,Y,Y,Y,Y,Z,Y,Y,Y,Y,Z,Z,Z,Z,Z] rfl rfl qT ?_
           refine tV6 (i:=1) (N:=some 28) #[Y,Y,Y,Y,Y,Y,Y,Z,Y,Y,Y,Y,Z,Z,Z,Z,Z] rfl rfl (take_ofW HT_.out HW_.out (by kernel_rfl)) hHeld ?_
           refine tV6 (i:=7) (N:=some 34) #[Y,Y,Y,Y,Y,Y,Y,Y,Y,Y,Y,Y,Z,Z,Z,Z,Z] rfl rfl (take_ofW HT_.out HW_.out (by kernel_rfl)) hHeld ?_
           refine tV6 (i:=12) (N:=some 39) #[Y,Y,Y,Y,Y,Y,Y,Y,Y,Y,Y,Y,Y,Z,Z,Z,Z] rfl rfl (take_ofW HT_.out HW_.out (by kernel_rfl)) hHeld ?_
           refine one_ (i:=13) (N:=some 40) #[Y,Y,Y,Y,Y,Y,Y,Y,Y,Y,Y,Y,Y,Y,Z,Z,Z] rfl rfl (one_of HT_.out (by kernel_rfl)) (by decide) (fun K hK => ?_);refine goes_ Try.func109 (by kernel_rfl) rfl #[.agg #[.int .i64 a0_0,.int .i64 a0_1,.slice A0_2 l0_2.length c0_2],.int .i64 (rd x7_1 (ji14)),.int .i64 ((rd_T76 l2 x8_1).f0)] (by rfl) rfl rfl (by (try simp only [List.map_toArray,List.map_cons,List.map_nil]);first | done | (simp only [hji14];rfl) | rfl | (simp only [List.length_drop,List.length_take];rfl)) ?_;with_reducible refine (spec_WayTo.calls k1 a0_0 a0_1 _ _ l0_2 (rd x7_1 (ji14)) ((rd_T76 l2 x8_1).f0) t433 _ ?side1 ?side2 A18.out).mono ?_
           (case side1 => exact qq117);(case side2 => exact qq334)
           rintro e w23 ⟨v434,rfl,ho0,hb⟩
           have HS3_:=(hb.cell (bl _ _ (hHeld.2.2.2.1))).trans (hHeld.2.2.2.1);refine ⟨_,rfl,?_⟩;have HO435:=am (Kd.R_lower (Kd.R_new' ho0 (Kd.R_lt qq302)) (below_size qq156));replace HO_7:=am qq423;replace BK423:=am qq385;replace HB:=am (below_step qq156 hb);(try clear hb);(try clear hb2);(try clear hk);(try clear hi);(try clear ho0);obtain ⟨Ao25,co25,eo25⟩:=Kd.R_slice HO435.out;(first | subst eo25 | (injection eo25 with f1_ f2_ f3_;have f4_:=f1_.symm;have f5_:=f3_.symm;clear f1_ f2_ f3_;subst f4_;subst f5_));have q24 : (1 : Int) ≤ ((t433.length : Int) : Int):=odt qq309;obtain ⟨i024,hi024,_,hsz24,_⟩:=info_parts info3;have hroom24 : t433.length ≤ co25:=(Kd.R_reads' HO435.out).2.1;have hC24 : Kd.C (Kd.int .i64) _ Ao25 t433.length t433:=(Kd.R_reads' HO435.out).2.2;have hcut24:=cut_from (P:=Try.prog) 49 3 .i64 Try.underlying49 hi024 1 hsz24 Ao25 t433.length co25 1 (by omega) q24;have hr24:=Kd.C_drop (m:=(1 : Int).toNat) (c:=co25) hC24 (by omega) hroom24;obtain ⟨A24,hA24⟩ : ∃ A1,A1 = (if co25 = (1 : Int).toNat then Ao25 else (Ao25 : Option Addr).map (·.add ((1 : Int).toNat * 1))):=⟨_,rfl⟩
           obtain ⟨c24,hc24⟩ : ∃ c1,c1 = co25 - (1 : Int).toNat:=⟨_,rfl⟩
           have hy24 : y436.length = t433.length - (1 : Int).toNat:=(by rw [Ny436.out,List.length_drop] <;> omega)
           rw [show (t433).drop (1 : Int).toNat = y436 from Ny436.out.symm] at hr24;replace hr24 : Kd.C (Kd.int .i64) _ A24 y436.length y436:=(by rw [hA24];exact hr24)
           rw [← hy24,← hA24,← hc24] at hcut24;have HR439:=am hr24;have HC439:=am (show y436.length ≤ c24 from by rw [hy24,hc24];exact Nat.sub_le_sub_right hroom24 _);clear hr24 hC24 hroom24 hi024 hsz24 hc24;have KY24:=am hy24;have KA24:=am hA24;clear hy24 hA24;have KL24:=am (show 1 ≤ t433.length from by omega);replace q24:=eq_true q24;refine hK.out _ _ ⟨(blk_cell BK423.out 0).trans rfl,(blk_cell BK423.out 1).trans rfl,(blk_cell BK423.out 2).trans rfl,HS3_,(ct HB.out hw432_0 :),(ct HB.out hw432_1 :)⟩ (fun hHeld => ?_);clear hK K;refine norm_ (a':=?_) ?_ ?_;rotate_left
           ·show Act.put _ (some 40) _ = _
            simp only [Act.put,sA,s0,s1,i64_w,i32_w];rfl
           refine pV (i:=14) (N:=some 41) #[Y,Y,Y,Y,Y,Y,Y,Y,Y,Y,Y,Y,Y,Y,Y,Z,Z] rfl rfl qT ?_
           refine last_ (i:=15) (N:=some 42) #[Y,Y,Y,Y,Y,Y,Y,Y,Y,Y,Y,Y,Y,Y,Y,Y,Z] rfl rfl (one_of HT_.out (by kernel_rfl)) (by decide) (fun K hK => ?_);refine Kd.R_append_rows_step (Kd.int .i64) (w0:=w) w.heap.size (by rfl) (.tmp 27) (.tmp 41) 49 3 (.int .i64 0) 8 rfl Try.underlying49 info3 rfl (by decide) (by omega) (.slice (some ad431) x7_1.length co22) x7_1 y436 _ _ _ (fun k_ => some k_ ≠ (.slice Ao25 t433.length co25 : Value).ownBlock) (fun _ => False) rfl rfl ?aO ?aR (fun _ _ h => h) (fun _ h => h.elim) ?aF ?aB ?aS ?aL ?_;(case aR => repeat (first | exact (by repeat (first | (with_reducible exact HR439.out) | (with_reducible refine cA ?_ _) | (with_reducible refine cN ?_ _) | (with_reducible refine cD ?_) | exact HR439.out)) | (with_reducible refine cA ?_ _) | (with_reducible refine cN ?_ _) | (with_reducible refine cD ?_)));(case aB => exact qq136);(case aF => exact (fun k_ hk => Kd.fresh' (Kd.R_lt qq286) k_ hk));(case aO => exact qq193);(case aS => exact qq107);(case aL => have:=LMc20.out;omega);intro v441 w26 ho hb hg hat;rw [← Ny440.out] at ho;replace BK423:=am qq346;replace HB:=am (hb);replace HR439:=am ((show Kd.C (Kd.int .i64) w26 A24 y436.length y436 from by rw [Ny436.out,KA24.out];exact Kd.C_drop (m:=1) (c:=co25) ((Kd.R_reads' (Kd.R_after (ok:=(fun _ => True)) qq286 hg hat)).2.2) KL24.out ((Kd.R_reads' (Kd.R_after (ok:=(fun _ => True)) qq286 hg hat)).2.1)));replace HO435:=am (Kd.R_after (ok:=(fun _ => True)) qq286 hg hat);have HO442:=am (ho);clear HO_7;clear ho hb hg hat;refine hK.out _ _ ?_;clear hK K;refine norm_ (a':=?_) ?_ ?_;rotate_left
           ·show Act.put _ (some 42) _ = _
            simp only [Act.put,sA,s0,s1,i64_w,i32_w];rfl
           refine pV (i:=16) (N:=some 7) #[Y,Y,Y,Y,Y,Y,Y,Y,Y,Y,Y,Y,Y,Y,Y,Y,Y] rfl rfl qT ?_
           refine done_ (done_of HT_.out (by kernel_rfl)) ?_
           try go_wp2
           go_loopg [7,9] k1 (fun kq v7 v9 w' => ∃ (x7_2 : List Int) (x9_2 : Int),v9 = .int .i64 x9_2 ∧ Aside0 (spec_PlanCells.l1 kq l2 x7_2 x8_1 x9_2 a0_0 a0_1 l0_2 = some r) ∧ Aside0 (kq ≤ k1) ∧ Aside0 (Kd.R (Kd.int .i64) 3 w' w.heap.size (fun _ => True) v7 x7_2) ∧ Aside0 (w'.heap[gb423]? = some (.cells #[.int .i64 a0_0,.int .i64 a0_1,(.slice A0_2 l0_2.length c0_2)] 51 (0,0))) ∧ Aside0 (Below w.heap.size w w'))
           case atStart => exact ⟨(y440),(0),qq311,H',⟨Nat.le_refl _⟩,⟨by (with_reducible repeat (first | apply kA | apply kN | apply kD));exact Kd.R_mono HO442.out (fun _ hk => trivial)⟩,⟨qq231⟩,⟨qq156⟩⟩
           case round =>
            clear H'
            try clear c1
            try clear c2
            try clear p2
            try clear q2
            try clear p4
            try clear q4
            try clear hx4
            try clear c5
            try clear c6
            try clear p6
            try clear c10
            try clear c13
            try clear c13b0
            try clear c15
            try clear c15b0
            try clear c16
            try clear c16b0
            try clear c17
            try clear c17b0
            try clear c19
            try clear c19b0
            try clear c19b1
            try clear c20
            try clear c24
            try clear q24
            try clear hcz10_0
            try clear hcz10_1
            try clear hcz10_2
            try clear hfz10_0
            try clear hfz10_1
            try clear hfz10_2
            try clear hx431_0
            try clear hx432_0
            try clear hx432_1
            try clear p2
            try clear p431
            try clear p432
            try clear q24
            try clear q431
            try clear q432
            obtain ⟨x7_2,x9_2,rfl,HA,HK2,HO_7,BK423,HB⟩:=hrel
            cases gk with
            | zero => exact absurd HA.out (by simp [spec_PlanCells.l1])
            | succ k2 =>
             have H:=HA.out;clear HA;simp only [spec_PlanCells.l1] at H
             by_cases c27 : 0 ≤ x8_1
             ·rw [if_pos c27] at H;have c27b0 : decide (0 ≤ x8_1) = true:=decide_eq_true c27;clear c27
              by_cases c28 : x8_1 < (l2.length : Int)
              ·rw [if_pos c28] at H;have c28b0 : decide (x8_1 < (l2.length : Int)) = true:=decide_eq_true c28;clear c28
               by_cases c29 : x9_2 < ((rd_T76 l2 x8_1).f1)
               ·rw [if_pos c29] at H;have c29b0 : decide (x9_2 < ((rd_T76 l2 x8_1).f1)) = true:=decide_eq_true c29;clear c29
                by_cases c30 : x7_2.length < 17592186044416
                ·rw [if_pos c30] at H;have LMc30:=am c30;clear c30;obtain ⟨y445,hy445⟩ : ∃ y_ : List Int,y_ = (x7_2 ++ [(rd_T76 l2 x8_1).f0]):=⟨_,rfl⟩
                 replace H : (spec_PlanCells.l1 k2 l2 y445 x8_1 (wrap64 (x9_2 + 1)) a0_0 a0_1 l0_2) = some r:=by first | (rw [hy445];with_reducible exact H) | (have H2_:=(Option.bind_some _ _).symm.trans H;rw [hy445];with_reducible exact H2_) | (have H2_:=(Option.bind_some _ _).symm.trans H;with_reducible exact H2_) | with_reducible exact H | (rw [hy445];exact H) | exact H
                 have Ny445:=am hy445;clear hy445;have H':=am H;clear H;have p443 : 0 ≤ (x8_1 : Int):=odt qq309;have q443 : x8_1 < (l2.length : Int):=odt qq309;obtain ⟨ad443,e443,hx443_0,hx443_1⟩:=at_T76 HR2.out x8_1 p443 q443;obtain rfl : ad432 = ad443:=(by injection e443)
                 replace hx443_0:=(ct HB.out hx443_0 :)
                 replace hx443_1:=(ct HB.out hx443_1 :)
                 replace p443:=eq_true p443;replace q443:=eq_true q443;have p444 : 0 ≤ (x8_1 : Int):=odt qq309;have q444 : x8_1 < (l2.length : Int):=odt qq309;obtain ⟨ad444,e444,hx444_0,hx444_1⟩:=at_T76 HR2.out x8_1 p444 q444;obtain rfl : ad432 = ad444:=(by injection e444)
                 replace hx444_0:=(ct HB.out hx444_0 :)
                 replace hx444_1:=(ct HB.out hx444_1 :)
                 replace p444:=eq_true p444;replace q444:=eq_true q444;go_wp2_with (first | ((with_reducible refine gate_builtin (b:=.append) (xs:=#[.tmp 52,.tmp 58]) rfl ?_);at_builtin;refine Kd.R_append (Kd.int .i64) (w0:=w) w.heap.size rfl (.tmp 52) (.tmp 58) 49 3 (.int .i64 0) 8 rfl Try.underlying49 info3 rfl (by decide) (by omega) u7 x7_2 ((rd_T76 l2 x8_1).f0) [.int .i64 ((rd_T76 l2 x8_1).f0)] (fun _ => True) (fun _ => False) rfl rfl ?aP (fun _ hk => hk.elim) ?aF ?aO ?aB ?aS ?aL ?_;(case aP => exact rfl);(case aB => exact qq136);(case aF => exact qq328);(case aO => exact qq268);(case aS => exact qq107);(case aL => have:=LMc30.out;omega);intro v446 w31 ho hb hg hat;rw [← Ny445.out] at ho;replace BK423:=am qq346;replace HB:=am (hb);have HO447:=am (ho);clear HO_7;clear ho hb hg hat))
                 go_roundg k2
                 case measure => have:=HK1.out;have:=HK2.out;omega
                 case rel => exact ⟨(y445),(wrap64 (x9_2 + 1)),qq311,H',⟨qq314⟩,⟨by (with_reducible repeat (first | apply kA | apply kN | apply kD));exact HO447.out⟩,⟨qq231⟩,⟨qq156⟩⟩
                ·rw [if_neg c30] at H;exact absurd H (by simp)
               ·rw [if_neg c29] at H;have c29b0 : decide (x9_2 < ((rd_T76 l2 x8_1).f1)) = false:=decide_eq_false c29;clear c29;have H':=am H;clear H;have p443 : 0 ≤ (x8_1 : Int):=odt qq309;have q443 : x8_1 < (l2.length : Int):=odt qq309;obtain ⟨ad443,e443,hx443_0,hx443_1⟩:=at_T76 HR2.out x8_1 p443 q443;obtain rfl : ad432 = ad443:=(by injection e443)
                replace hx443_0:=(ct HB.out hx443_0 :)
                replace hx443_1:=(ct HB.out hx443_1 :)
                replace p443:=eq_true p443;replace q443:=eq_true q443;go_wp2
                go_roundg k2
                case measure => have:=HK1.out;have:=HK2.out;omega
                case rel => exact ⟨(x7_2),(wrap64 (x8_1 + 1)),qq311,H',⟨qq314⟩,⟨qq302⟩,⟨qq231⟩,⟨qq156⟩⟩
              ·rw [if_neg c28] at H;exact absurd H (by simp)
             ·rw [if_neg c27] at H;exact absurd H (by simp)
          ·rw [if_neg c20] at H;exact absurd H (by simp)
         ·rw [if_neg c19] at H;exact absurd H (by simp)
        ·rw [if_neg c17] at H;exact absurd H (by simp)
       ·rw [if_neg c16] at H;exact absurd H (by simp)
      ·rw [if_neg c15] at H;exact absurd H (by simp)
     ·rw [if_neg c13] at H;have c13b0 : decide (x8_1 < (l2.length : Int)) = false:=decide_eq_false c13;clear c13;obtain rfl:=Option.some.inj H;go_wp2
      go_ret
      exact ⟨_,qq263,qq302,qq156⟩
  ·rw [if_neg c6] at H;exact absurd H (by simp)
 ·replace c5:=Bool.eq_false_iff.mpr c5;subst c5;have H1 : (some y424) = some r:=by rw [if_neg (show ¬ (false = true) by decide)] at H;exact H
  clear H;have H:=H1;clear H1;obtain rfl:=Option.some.inj H
  go_enter Try.func61,Try.ntmps61
  go_wp2_with (first | ((with_reducible refine gate_dst (N:=3) rfl ?_);refine box_event ?hg (N:=3) ?hd (cs:=#[.int .i64 a0_0,.int .i64 a0_1,.slice A0_2 l0_2.length c0_2]) (t:=51) ?hr ?_;(case hd => rfl);(case hg => rfl);(case hr => exact qq312);intro gb423 hg w32 hbox hb;have BK423:=am (hbox);have GW423:=am qq450;have GE423:=am qq450;replace HB:=am qq488;clear hb hbox hg) | ((with_reducible refine gate_dst (N:=10) rfl ?_);refine Kd.R_lit (Kd.int .i64) _ 3 ?hg (N:=10) ?hd (xs:=([] : List Int)) (inner:=[]) (ok:=fun _ => True) (okp:=fun _ => True) ?hr ?hp (fun _ hk => hk) trivial (Below.refl _ _) (Nat.le_refl _) (by simp) ?_;(case hd => rfl);(case hg => rfl);(case hr => exact qq312);(case hp => exact qq330);intro v425 w33 ho34 hb hg_ hnew_;clear hg_ hnew_;(first | rw [← Ny424.out] at ho34 | (simp only [Int.reduceToNat] at ho34;rw [← Ny424.out] at ho34));have HO426:=am (Kd.R_lower ho34 (below_size qq156));replace BK423:=am qq385;replace HB:=am (below_step qq156 hb);clear hb ho34;obtain ⟨hcz35_0,hcz35_1,hcz35_2,hfz35_0,hfz35_1,hfz35_2⟩:=bcl3 BK423.out) | ((with_reducible refine gate_callee (f:=55) rfl ?_);refine goesL_ (some 14) rfl rfl Try.func55 (by kernel_rfl) rfl #[.agg #[.int .i64 a0_0,.int .i64 a0_1,.slice A0_2 l0_2.length c0_2],.int .i64 a1,.slice A2 l2.length c2] rfl qq187 ?_;(with_reducible refine (spec_IsPlan.calls k a0_0 a0_1 _ _ l0_2 a1 _ _ l2 false _ ?side1 ?side2 ?side3 ?side4 A4.out).mono ?_);(case side1 => exact qq117);(case side2 => exact qq334);(case side3 => exact qq131);(case side4 => exact HC2.out);rintro e w36 ⟨rfl,hb⟩;refine ⟨_,rfl,?_⟩;replace HO426:=am (Kd.R_below qq287 hb);replace BK423:=am qq385;replace HB:=am (below_step qq156 hb);(try clear hb);(try clear hb2);(try clear hk);(try clear hi)))
  go_ret
  exact ⟨_,qq263,qq287,qq156⟩

/-! ### spec_PlanDays: function 60 -/
def spec_PlanDays.f (k : Nat) (a0_0 : Int) (a0_1 : Int) (l0_2 : List Int) (a1 : Int) (l2 : List (S76)) : Option (Int) := (spec_PlanCells.f k a0_0 a0_1 l0_2 a1 l2).bind fun t449 => (some (wrap64 ((t449.length : Int) - 1)))
set_option maxHeartbeats 8000000 in
set_option maxRecDepth 100000 in
theorem spec_PlanDays.calls (k : Nat) (a0_0 : Int) (a0_1 : Int) (A0_2 : Option Addr) (c0_2 : Nat) (l0_2 : List Int) (a1 : Int) (A2 : Option Addr) (c2 : Nat) (l2 : List (S76)) (r : Int) (w : World) (hr0_2 : Kd.C (Kd.int .i64) w A0_2 l0_2.length l0_2) (hc0_2 : l0_2.length ≤ c0_2) (hr2 : Kd.C k76 w A2 l2.length l2) (hc2 : l2.length ≤ c2) (h : spec_PlanDays.f k a0_0 a0_1 l0_2 a1 l2 = some r) :
  Calls Try.prog 60 #[.agg #[.int .i64 a0_0,.int .i64 a0_1,.slice A0_2 l0_2.length c0_2],.int .i64 a1,.slice A2 l2.length c2] w fun e w' => e = .returned (.int .i64 r) ∧ Below w.heap.size w w':=by
 have hu51:=Try.underlying51;have HR0_2:=am hr0_2;have HC0_2:=am hc0_2;clear hr0_2 hc0_2;have HR2:=am hr2;have HC2:=am hc2;clear hr2 hc2;have HB:=am qq465;have H : ((spec_PlanCells.f k a0_0 a0_1 l0_2 a1 l2).bind fun t449 => (some (wrap64 ((t449.length : Int) - 1)))) = some r:=h;clear h;replace H:=bS.mp H;obtain ⟨t449,A40,H⟩:=H;(try dsimp only at H);have A4:=am A40;clear A40;obtain rfl:=Option.some.inj H
 go_enter Try.func60,Try.ntmps60
 go_wp2_with (first | ((with_reducible refine gate_dst (N:=3) rfl ?_);refine box_event ?hg (N:=3) ?hd (cs:=#[.int .i64 a0_0,.int .i64 a0_1,.slice A0_2 l0_2.length c0_2]) (t:=51) ?hr ?_;(case hd => rfl);(case hg => rfl);(case hr => exact qq312);intro gb448 hg w5 hbox hb;have BK448:=am (hbox);have GW448:=am ((qq144 : w.heap.size ≤ gb448));have GE448:=am ((qq144 : w.heap.size ≤ gb448));replace HB:=am qq488;clear hb hbox hg;obtain ⟨hcz6_0,hcz6_1,hcz6_2,hfz6_0,hfz6_1,hfz6_2⟩:=bcl3 BK448.out) | ((with_reducible refine gate_callee (f:=61) rfl ?_);refine goesL_ (some 10) rfl rfl Try.func61 (by kernel_rfl) rfl #[.agg #[.int .i64 a0_0,.int .i64 a0_1,.slice A0_2 l0_2.length c0_2],.int .i64 a1,.slice A2 l2.length c2] rfl qq187 ?_;(with_reducible refine (spec_PlanCells.calls k a0_0 a0_1 _ _ l0_2 a1 _ _ l2 t449 _ ?side1 ?side2 ?side3 ?side4 A4.out).mono ?_);(case side1 => exact qq117);(case side2 => exact qq334);(case side3 => exact qq131);(case side4 => exact HC2.out);rintro e w7 ⟨v450,rfl,ho0,hb⟩;refine ⟨_,rfl,?_⟩;have HO451:=am (Kd.R_lower ho0 (below_size qq155));replace BK448:=am (blk_below (g:=gb448) (o:=.cells #[.int .i64 a0_0,.int .i64 a0_1,.slice A0_2 l0_2.length c0_2] 51 (0,0)) (by (with_reducible repeat (first | refine dN ?_ _ | refine dD ?_ | refine dA ?_ _));exact BK448.out) hb);replace HB:=am (below_step qq155 hb);(try clear hb);(try clear hb2);(try clear hk);(try clear hi);(try clear ho0);obtain ⟨Ao8,co8,eo8⟩:=Kd.R_slice HO451.out;subst eo8))
 go_ret
 exact ⟨qq263,qq155⟩

end Go.Proofs.Ytcbkknpmeknppaa.PFnExactPlanFood
