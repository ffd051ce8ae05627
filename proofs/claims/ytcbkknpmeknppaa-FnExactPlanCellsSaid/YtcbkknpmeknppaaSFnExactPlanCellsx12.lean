/- Contracts of functions that the law FnExactPlanCells reaches, for its row: lines that the kit's printer wrote for this claim, set shorter by a program of this session (own.py), and what fell in Lean proved anew. Lean checks them. -/
import Derived.Test.YtcbkknpmeknppaaSFnExactPlanCellsx0
import Derived.Test.YtcbkknpmeknppaaSFnExactPlanCellsx10
import Derived.Test.YtcbkknpmeknppaaSFnExactPlanCellsx11
namespace Go.Proofs.Ytcbkknpmeknppaa.PFnExactPlanCells
open Go.RowKit Go.Proofs.YtcbkknpmeknppaaW.PrintWords Go.Proofs.YtcbkknpmeknppaaW.PrintLast Go.Proofs.YtcbkknpmeknppaaW.PrintMore
attribute [local go_sem] max2_int min2_int max_two min_two max_three min_three max_four min_four   -- for this text's walks alone
set_option linter.unusedVariables false
set_option linter.unusedSimpArgs false

/-! ### spec_PlanCells: function 61 -/
mutual
def spec_PlanCells.l0 : Nat → List (S76) → List Int → Int → Int → Int → List Int → Option (List Int)
 | 0,_,_,_,_,_,_ => none
 | k + 1,x2,x7,x8,x355000,x355001,x355002 => if x8 < (x2.length : Int) then (if 0 ≤ (wrap64 ((x7.length : Int) - 1)) then (if (wrap64 ((x7.length : Int) - 1)) < (x7.length : Int) then (if 0 ≤ x8 then ((spec_WayTo.f k x355000 x355001 x355002 (rd x7 (wrap64 ((x7.length : Int) - 1))) ((rd_T76 x2 x8).f0)).bind fun t364 => (if 1 ≤ (t364.length : Int) then ((some (t364.drop 1 : List Int)).bind fun y367 => (if x7.length + y367.length < 17592186044416 then (spec_PlanCells.l1 k x2 (x7 ++ y367) x8 0 x355000 x355001 x355002) else (none))) else (none))) else (none)) else (none)) else (none)) else (some x7)
def spec_PlanCells.l1 : Nat → List (S76) → List Int → Int → Int → Int → Int → List Int → Option (List Int)
 | 0,_,_,_,_,_,_,_ => none
 | k + 1,x2,x7,x8,x9,x355000,x355001,x355002 => if 0 ≤ x8 then (if x8 < (x2.length : Int) then (if x9 < ((rd_T76 x2 x8).f1) then (if x7.length < 17592186044416 then (spec_PlanCells.l1 k x2 (x7 ++ [(rd_T76 x2 x8).f0]) x8 (wrap64 (x9 + 1)) x355000 x355001 x355002) else (none)) else (spec_PlanCells.l0 k x2 x7 (wrap64 (x8 + 1)) x355000 x355001 x355002)) else (none)) else (none)
end
def spec_PlanCells.f (k : Nat) (a0_0 : Int) (a0_1 : Int) (l0_2 : List Int) (a1 : Int) (l2 : List (S76)) : Option (List Int) := (some (([] : List Int) : List Int)).bind fun y355 => ((spec_IsPlan.f k a0_0 a0_1 l0_2 a1 l2).bind fun t358 => (if t358 = true then (if y355.length < 17592186044416 then (spec_PlanCells.l0 k l2 (y355 ++ [a1]) 0 a0_0 a0_1 l0_2) else (none)) else (some y355)))
theorem spec_PlanCells.mono_l : ∀ k, (∀ y0 y1 y2 y3 y4 y5, LeO (spec_PlanCells.l0 k y0 y1 y2 y3 y4 y5) (spec_PlanCells.l0 (k + 1) y0 y1 y2 y3 y4 y5)) ∧ (∀ y0 y1 y2 y3 y4 y5 y6, LeO (spec_PlanCells.l1 k y0 y1 y2 y3 y4 y5 y6) (spec_PlanCells.l1 (k + 1) y0 y1 y2 y3 y4 y5 y6))
 | 0 => ⟨fun _ _ _ _ _ _ r h => by simp [spec_PlanCells.l0] at h,fun _ _ _ _ _ _ _ r h => by simp [spec_PlanCells.l1] at h⟩
 | k + 1 => by
  obtain ⟨ih0,ih1⟩:=spec_PlanCells.mono_l k
  refine ⟨?_,?_⟩
  ·intro y0 y1 y2 y3 y4 y5
   unfold spec_PlanCells.l0
   repeat' first
   | (with_reducible exact ih0 _ _ _ _ _ _)
   | (with_reducible exact ih1 _ _ _ _ _ _ _)
   | (with_reducible exact spec_IsPlan.mono _ _ _ _ _ _)
   | (with_reducible exact spec_WayTo.mono _ _ _ _ _ _)
   | (with_reducible exact LeO.refl _)
   | (with_reducible exact LeO.none _)
   | (with_reducible refine LeO.ite ?_ ?_)
   | (with_reducible refine LeO.bind ?_ (fun _ => ?_))
   | exact ih0 _ _ _ _ _ _
   | exact ih1 _ _ _ _ _ _ _
   | exact spec_IsPlan.mono _ _ _ _ _ _
   | exact spec_WayTo.mono _ _ _ _ _ _
   | exact LeO.none _
   | refine LeO.ite ?_ ?_
   | refine LeO.bind ?_ (fun _ => ?_)
  ·intro y0 y1 y2 y3 y4 y5 y6
   unfold spec_PlanCells.l1
   repeat' first
   | (with_reducible exact ih0 _ _ _ _ _ _)
   | (with_reducible exact ih1 _ _ _ _ _ _ _)
   | (with_reducible exact spec_IsPlan.mono _ _ _ _ _ _)
   | (with_reducible exact spec_WayTo.mono _ _ _ _ _ _)
   | (with_reducible exact LeO.refl _)
   | (with_reducible exact LeO.none _)
   | (with_reducible refine LeO.ite ?_ ?_)
   | (with_reducible refine LeO.bind ?_ (fun _ => ?_))
   | exact ih0 _ _ _ _ _ _
   | exact ih1 _ _ _ _ _ _ _
   | exact spec_IsPlan.mono _ _ _ _ _ _
   | exact spec_WayTo.mono _ _ _ _ _ _
   | exact LeO.none _
   | refine LeO.ite ?_ ?_
   | refine LeO.bind ?_ (fun _ => ?_)
theorem spec_PlanCells.mono : ∀ a0 a1 a2 a3 a4 k, LeO (spec_PlanCells.f k a0 a1 a2 a3 a4) (spec_PlanCells.f (k + 1) a0 a1 a2 a3 a4) := by
 intro a0 a1 a2 a3 a4 k
 obtain ⟨ih0,ih1⟩:=spec_PlanCells.mono_l k
 unfold spec_PlanCells.f
 repeat' first
   | (with_reducible exact ih0 _ _ _ _ _ _)
   | (with_reducible exact ih1 _ _ _ _ _ _ _)
   | (with_reducible exact spec_IsPlan.mono _ _ _ _ _ _)
   | (with_reducible exact spec_WayTo.mono _ _ _ _ _ _)
   | (with_reducible exact LeO.refl _)
   | (with_reducible exact LeO.none _)
   | (with_reducible refine LeO.ite ?_ ?_)
   | (with_reducible refine LeO.bind ?_ (fun _ => ?_))
   | exact ih0 _ _ _ _ _ _
   | exact ih1 _ _ _ _ _ _ _
   | exact spec_IsPlan.mono _ _ _ _ _ _
   | exact spec_WayTo.mono _ _ _ _ _ _
   | exact LeO.none _
   | refine LeO.ite ?_ ?_
   | refine LeO.bind ?_ (fun _ => ?_)
def spec_PlanCells.T8 : Bool × List (List Nat × List Nat) := (true, [([], []), ([], []), ([], []), ([], []), ([3], [3]), ([4], [4]), ([2, 5], [2, 5]), ([6], [6]), ([], []), ([], []), ([8, 9], [8, 9]), ([10], [10]), ([11], [11]), ([1, 7, 12], [1, 7, 12]), ([13], [13]), ([0, 14, 13], [0, 14]), ([15, 15, 0, 1, 2, 3, 4, 5, 6, 7, 8, 9, 10, 11, 12, 13, 14, 15], [0, 2, 3, 15])])
def spec_PlanCells.B8 : List Nat := [0, 0, 0, 0, 8, 24, 60, 124, 0, 0, 768, 1792, 3840, 8190, 16382, 32767, 65535]
theorem spec_PlanCells.tab8 : rtab .any (opsOf Try.f61 8) = spec_PlanCells.T8 := by kernel_rfl
theorem spec_PlanCells.bits8 : waitsOk spec_PlanCells.T8.2 spec_PlanCells.B8 = true := by kernel_rfl
set_option maxHeartbeats 8000000 in
set_option maxRecDepth 100000 in
theorem spec_PlanCells.calls (k : Nat) (a0_0 : Int) (a0_1 : Int) (A0_2 : Option Addr) (c0_2 : Nat) (l0_2 : List Int) (a1 : Int) (A2 : Option Addr) (c2 : Nat) (l2 : List (S76)) (r : List Int) (w : World) (hr0_2 : Kd.C (Kd.int .i64) w A0_2 l0_2.length l0_2) (hc0_2 : l0_2.length ≤ c0_2) (hr2 : Kd.C k76 w A2 l2.length l2) (hc2 : l2.length ≤ c2) (h : spec_PlanCells.f k a0_0 a0_1 l0_2 a1 l2 = some r) :
  Calls Try.prog 61 #[.agg #[.int .i64 a0_0,.int .i64 a0_1,.slice A0_2 l0_2.length c0_2],.int .i64 a1,.slice A2 l2.length c2] w fun e w' => ∃ v0_ : Value,e = .returned (v0_) ∧ Kd.R (Kd.int .i64) 3 w' w.heap.size (fun _ => True) v0_ r ∧ Below w.heap.size w w':=by
 have hu51:=Try.underlying51;have HR0_2:=am hr0_2;have HC0_2:=am hc0_2;clear hr0_2 hc0_2;have HR2:=am hr2;have HC2:=am hc2;clear hr2 hc2;have HB:=am (Below.refl w.heap.size w);have H : ((some (([] : List Int) : List Int)).bind fun y355 => ((spec_IsPlan.f k a0_0 a0_1 l0_2 a1 l2).bind fun t358 => (if t358 = true then (if y355.length < 17592186044416 then (spec_PlanCells.l0 k l2 (y355 ++ [a1]) 0 a0_0 a0_1 l0_2) else (none)) else (some y355)))) = some r:=h;clear h;obtain ⟨y355,hy355⟩ : ∃ y_ : List Int,y_ = (([] : List Int)):=⟨_,rfl⟩
 replace H : ((spec_IsPlan.f k a0_0 a0_1 l0_2 a1 l2).bind fun t358 => (if t358 = true then (if y355.length < 17592186044416 then (spec_PlanCells.l0 k l2 (y355 ++ [a1]) 0 a0_0 a0_1 l0_2) else (none)) else (some y355))) = some r:=by first | (rw [hy355];with_reducible exact H) | (have H2_:=(Option.bind_some _ _).symm.trans H;rw [hy355];with_reducible exact H2_) | (have H2_:=(Option.bind_some _ _).symm.trans H;with_reducible exact H2_) | with_reducible exact H | (rw [hy355];exact H) | exact H
 have Ny355:=am hy355;clear hy355;replace H:=bS.mp H;obtain ⟨t358,A40,H⟩:=H;replace H : (if t358 = true then (if y355.length < 17592186044416 then (spec_PlanCells.l0 k l2 (y355 ++ [a1]) 0 a0_0 a0_1 l0_2) else (none)) else (some y355)) = some r:=H;have A4:=am A40;clear A40
 by_cases c5 : t358 = true
 ·subst c5;have H1 : (if y355.length < 17592186044416 then (spec_PlanCells.l0 k l2 (y355 ++ [a1]) 0 a0_0 a0_1 l0_2) else (none)) = some r:=by rw [if_pos rfl] at H;exact H
  clear H;have H:=H1;clear H1
  by_cases c6 : y355.length < 17592186044416
  ·rw [if_pos c6] at H;have LMc6:=am c6;clear c6;obtain ⟨y359,hy359⟩ : ∃ y_ : List Int,y_ = (y355 ++ [a1]):=⟨_,rfl⟩
   replace H : (spec_PlanCells.l0 k l2 y359 0 a0_0 a0_1 l0_2) = some r:=by first | (rw [hy359];with_reducible exact H) | (have H2_:=(Option.bind_some _ _).symm.trans H;rw [hy359];with_reducible exact H2_) | (have H2_:=(Option.bind_some _ _).symm.trans H;with_reducible exact H2_) | with_reducible exact H | (rw [hy359];exact H) | exact H
   have Ny359:=am hy359;clear hy359;have H':=am H;clear H
   go_enter Try.func61,Try.ntmps61
   go_wp2_with (first | ((with_reducible refine gate_dst (N:=3) rfl ?_);refine box_event ?hg (N:=3) ?hd (cs:=#[.int .i64 a0_0,.int .i64 a0_1,.slice A0_2 l0_2.length c0_2]) (t:=51) ?hr ?_;(case hd => rfl);(case hg => rfl);(case hr => exact qq219);intro gb354 hg w7 hbox hb;have BK354:=am (hbox);have GW354:=am ((qq85 : w.heap.size ≤ gb354));have GE354:=am ((qq85 : w.heap.size ≤ gb354));replace HB:=am (below_step qq140 hb);clear hb hbox hg) | ((with_reducible refine gate_dst (N:=10) rfl ?_);refine Kd.R_lit (Kd.int .i64) _ 3 ?hg (N:=10) ?hd (xs:=([] : List Int)) (inner:=[]) (ok:=fun _ => True) (okp:=fun _ => True) ?hr ?hp (fun _ hk => hk) trivial (Below.refl _ _) (Nat.le_refl _) (by simp) ?_;(case hd => rfl);(case hg => rfl);(case hr => exact qq219);(case hp => exact qq237);intro v356 w8 ho9 hb hg_ hnew_;clear hg_ hnew_;(first | rw [← Ny355.out] at ho9 | (simp only [Int.reduceToNat] at ho9;rw [← Ny355.out] at ho9));have HO357:=am (Kd.R_lower ho9 (below_size qq88));replace BK354:=am (blk_below (g:=gb354) (o:=.cells #[.int .i64 a0_0,.int .i64 a0_1,.slice A0_2 l0_2.length c0_2] 51 (0,0)) qq144 hb);replace HB:=am (below_step qq88 hb);clear hb ho9;obtain ⟨hcz10_0,hcz10_1,hcz10_2,hfz10_0,hfz10_1,hfz10_2⟩:=bcl3 BK354.out) | ((with_reducible refine gate_callee (f:=55) rfl ?_);refine goesL_ (some 14) rfl rfl Try.func55 (by kernel_rfl) rfl #[.agg #[.int .i64 a0_0,.int .i64 a0_1,.slice A0_2 l0_2.length c0_2],.int .i64 a1,.slice A2 l2.length c2] rfl qq112 ?_;(with_reducible refine (spec_IsPlan.calls k a0_0 a0_1 _ _ l0_2 a1 _ _ l2 true _ ?side1 ?side2 ?side3 ?side4 A4.out).mono ?_);(case side1 => exact qq61);(case side2 => exact qq239);(case side3 => exact qq75);(case side4 => exact HC2.out);rintro e w11 ⟨rfl,hb⟩;refine ⟨_,rfl,?_⟩;replace HO357:=am (Kd.R_below qq193 hb);replace BK354:=am (blk_below (g:=gb354) (o:=.cells #[.int .i64 a0_0,.int .i64 a0_1,.slice A0_2 l0_2.length c0_2] 51 (0,0)) qq144 hb);replace HB:=am (below_step qq88 hb);(try clear hb);(try clear hb2);(try clear hk);(try clear hi)) | ((with_reducible refine gate_builtin (b:=.append) (xs:=#[.tmp 17,.tmp 19]) rfl ?_);at_builtin;refine Kd.R_append (Kd.int .i64) (w0:=w) w.heap.size rfl (.tmp 17) (.tmp 19) 49 3 (.int .i64 0) 8 rfl Try.underlying49 info3 rfl (by decide) (by omega) v356 y355 a1 [.int .i64 a1] (fun _ => True) (fun _ => False) rfl rfl ?aP (fun _ hk => hk.elim) ?aF ?aO ?aB ?aS ?aL ?_;(case aP => exact rfl);(case aB => exact qq77);(case aF => exact qq235);(case aO => exact qq193);(case aS => exact qq54);(case aL => have:=LMc6.out;omega);intro v360 w12 ho hb hg hat;rw [← Ny359.out] at ho;replace BK354:=am (blk_grown (g:=gb354) (o:=.cells #[.int .i64 a0_0,.int .i64 a0_1,.slice A0_2 l0_2.length c0_2] 51 (0,0)) qq144 hg (Kd.R_ne HO357.out BK354.out (by decide)));replace HB:=am (hb);have HO361:=am (ho);clear HO357;clear ho hb hg hat))
   go_loopg [7,8] k (fun kq v7 v8 w' => ∃ (x7_1 : List Int) (x8_1 : Int),v8 = .int .i64 x8_1 ∧ Aside0 (spec_PlanCells.l0 kq l2 x7_1 x8_1 a0_0 a0_1 l0_2 = some r) ∧ Aside0 (kq ≤ k) ∧ Aside0 (Kd.R (Kd.int .i64) 3 w' w.heap.size (fun _ => True) v7 x7_1) ∧ Aside0 (w'.heap[gb354]? = some (.cells #[.int .i64 a0_0,.int .i64 a0_1,(.slice A0_2 l0_2.length c0_2)] 51 (0,0))) ∧ Aside0 (Below w.heap.size w w'))
   case atStart => exact ⟨(y359),(0),qq217,H',⟨Nat.le_refl _⟩,⟨by (with_reducible repeat (first | apply kA | apply kN | apply kD));exact HO361.out⟩,⟨qq144⟩,⟨qq88⟩⟩
   case round =>
    clear H'
    try clear c2
    try clear p2
    try clear c5
    try clear c6
    try clear hcz10_0
    try clear hcz10_1
    try clear hcz10_2
    try clear hfz10_0
    try clear hfz10_1
    try clear hfz10_2
    obtain ⟨x7_1,x8_1,rfl,HA,HK1,HO_7,BK354,HB⟩:=hrel
    cases gk with
    | zero => exact absurd HA.out (by simp [spec_PlanCells.l0])
    | succ k1 =>
     have H:=HA.out;clear HA;simp only [spec_PlanCells.l0] at H
     by_cases c13 : x8_1 < (l2.length : Int)
     ·rw [if_pos c13] at H;have c13b0 : decide (x8_1 < (l2.length : Int)) = true:=decide_eq_true c13;clear c13;obtain ⟨ji14,hji14⟩ : ∃ j_ : Int,(wrap64 ((x7_1.length : Int) - 1)) = j_:=⟨_,rfl⟩
      replace H : (if 0 ≤ (ji14) then (if (ji14) < (x7_1.length : Int) then (if 0 ≤ x8_1 then ((spec_WayTo.f k1 a0_0 a0_1 l0_2 (rd x7_1 (ji14)) ((rd_T76 l2 x8_1).f0)).bind fun t364 => (if 1 ≤ (t364.length : Int) then ((some (t364.drop 1 : List Int)).bind fun y367 => (if x7_1.length + y367.length < 17592186044416 then (spec_PlanCells.l1 k1 l2 (x7_1 ++ y367) x8_1 0 a0_0 a0_1 l0_2) else (none))) else (none))) else (none)) else (none)) else (none)) = some r:=by first | (rw [hji14] at H;exact H) | (simp only [hji14] at H ⊢;exact H)
      have hji14w : (IntKind.i64.wrap ((x7_1.length : Int) - 1)) = ji14:=(i64_w _).trans hji14
      by_cases c15 : 0 ≤ (ji14)
      ·rw [if_pos c15] at H;have c15b0 : decide (0 ≤ (ji14)) = true:=decide_eq_true c15;clear c15
       by_cases c16 : (ji14) < (x7_1.length : Int)
       ·rw [if_pos c16] at H;have c16b0 : decide ((ji14) < (x7_1.length : Int)) = true:=decide_eq_true c16;clear c16
        by_cases c17 : 0 ≤ x8_1
        ·rw [if_pos c17] at H;have c17b0 : decide (0 ≤ x8_1) = true:=decide_eq_true c17;clear c17;replace H:=bS.mp H;obtain ⟨t364,A180,H⟩:=H;replace H : (if 1 ≤ (t364.length : Int) then ((some (t364.drop 1 : List Int)).bind fun y367 => (if x7_1.length + y367.length < 17592186044416 then (spec_PlanCells.l1 k1 l2 (x7_1 ++ y367) x8_1 0 a0_0 a0_1 l0_2) else (none))) else (none)) = some r:=H;have A18:=am A180;clear A180
         by_cases c19 : 1 ≤ (t364.length : Int)
         ·rw [if_pos c19] at H;have c19b0:=eq_true c19;have c19b1 : decide (1 ≤ (t364.length : Int)) = true:=decide_eq_true c19;clear c19;obtain ⟨y367,hy367⟩ : ∃ y_ : List Int,y_ = (t364.drop 1):=⟨_,rfl⟩
          replace H : (if x7_1.length + y367.length < 17592186044416 then (spec_PlanCells.l1 k1 l2 (x7_1 ++ y367) x8_1 0 a0_0 a0_1 l0_2) else (none)) = some r:=by first | (rw [hy367];with_reducible exact H) | (have H2_:=(Option.bind_some _ _).symm.trans H;rw [hy367];with_reducible exact H2_) | (have H2_:=(Option.bind_some _ _).symm.trans H;with_reducible exact H2_) | with_reducible exact H | (rw [hy367];exact H) | exact H
          have Ny367:=am hy367;clear hy367
          by_cases c20 : x7_1.length + y367.length < 17592186044416
          ·rw [if_pos c20] at H;have LMc20:=am c20;clear c20;obtain ⟨y371,hy371⟩ : ∃ y_ : List Int,y_ = (x7_1 ++ y367):=⟨_,rfl⟩
           replace H : (spec_PlanCells.l1 k1 l2 y371 x8_1 0 a0_0 a0_1 l0_2) = some r:=by first | (rw [hy371];with_reducible exact H) | (have H2_:=(Option.bind_some _ _).symm.trans H;rw [hy371];with_reducible exact H2_) | (have H2_:=(Option.bind_some _ _).symm.trans H;with_reducible exact H2_) | with_reducible exact H | (rw [hy371];exact H) | exact H
           have Ny371:=am hy371;clear hy371;have H':=am H;clear H
           try go_wp2
           replace HO_7:=am (Kd.R_drew HO_7.out);replace BK354:=am (blk_drew BK354.out);replace HB:=am (below_drew1 HB.out);obtain ⟨Ao22,co22,eo22⟩:=Kd.R_slice HO_7.out;(first | subst eo22 | (injection eo22 with f1_ f2_ f3_;have f4_:=f1_.symm;have f5_:=f3_.symm;clear f1_ f2_ f3_;subst f4_;subst f5_));have p362 : 0 ≤ ((ji14) : Int):=odt qq215;have q362 : (ji14) < (x7_1.length : Int):=odt qq215;obtain ⟨ad362,e362,hx362_0⟩:=Kd.at_int (Kd.R_reads' HO_7.out).2.2 (ji14) p362 q362
           cases e362
           replace p362:=eq_true p362;replace q362:=eq_true q362;have p363 : 0 ≤ (x8_1 : Int):=odt qq215;have q363 : x8_1 < (l2.length : Int):=odt qq215;obtain ⟨ad363,e363,hx363_0,hx363_1⟩:=at_T76 HR2.out x8_1 p363 q363;have hw363_1:=hx363_1;have hw363_0:=hx363_0
           cases e363
           replace hx363_0:=(ct HB.out hx363_0 :)
           replace hx363_1:=(ct HB.out hx363_1 :)
           replace p363:=eq_true p363;replace q363:=eq_true q363;refine start_ (n:=17) (S:=fun w' => w'.cell? ⟨gb354,0,none⟩ = some (.int .i64 a0_0) ∧ w'.cell? ⟨gb354,1,none⟩ = some (.int .i64 a0_1) ∧ w'.cell? ⟨gb354,2,none⟩ = some (.slice A0_2 l0_2.length c0_2) ∧ w'.cell? (ad362.add ((ji14)).toNat) = some (.int .i64 (rd x7_1 (ji14))) ∧ w'.cell? (ad363.add ((x8_1).toNat * 2)) = some (.int .i64 ((rd_T76 l2 x8_1).f0)) ∧ w'.cell? ⟨(ad363.add ((x8_1).toNat * 2)).block,(ad363.add ((x8_1).toNat * 2)).off + 1,none⟩ = some (.int .i64 ((rd_T76 l2 x8_1).f1))) (ds:=[15]) #[Z,Z,Z,Z,Z,Z,Z,Z,Z,Z,Z,Z,Z,Z,Z,Z,Z] (by kernel_rfl) rfl rfl ⟨(blk_cell BK354.out 0).trans rfl,(blk_cell BK354.out 1).trans rfl,(blk_cell BK354.out 2).trans rfl,hx362_0,(ct HB.out hw363_0 :),(ct HB.out hw363_1 :)⟩ (fun hHeld => ?_);refine with_tabW spec_PlanCells.tab8 spec_PlanCells.bits8 (fun HT_ HW_ => ?_)
           generalize wr.drew = w21 at HO_7 BK354 HB hx362_0 hx363_0 hx363_1 hHeld ⊢
           refine pV (i:=0) (N:=some 27) #[Y,Z,Z,Z,Z,Z,Z,Z,Z,Z,Z,Z,Z,Z,Z,Z,Z] rfl rfl qT ?_
           refine pV (i:=2) (N:=some 29) #[Y,Z,Y,Z,Z,Z,Z,Z,Z,Z,Z,Z,Z,Z,Z,Z,Z] rfl rfl qT ?_
           refine pV (i:=3) (N:=some 30) #[Y,Z,Y,Y,Z,Z,Z,Z,Z,Z,Z,Z,Z,Z,Z,Z,Z] rfl rfl qT ?_
           refine pV (i:=4) (N:=some 31) #[Y,Z,Y,Y,Y,Z,Z,Z,Z,Z,Z,Z,Z,Z,Z,Z,Z] rfl rfl qT ?_
           refine pV (i:=5) (N:=some 32) #[Y,Z,Y,Y,Y,Y,Z,Z,Z,Z,Z,Z,Z,Z,Z,Z,Z] rfl rfl qT ?_
           refine pV (i:=6) (N:=some 33) #[Y,Z,Y,Y,Y,Y,Y,Z,Z,Z,Z,Z,Z,Z,Z,Z,Z] rfl rfl qT ?_
           refine pV (i:=8) (N:=some 35) #[Y,Z,Y,Y,Y,Y,Y,Z,Y,Z,Z,Z,Z,Z,Z,Z,Z] rfl rfl qT ?_
           refine pV (i:=9) (N:=some 36) #[Y,Z,Y,Y,Y,Y,Y,Z,Y,Y,Z,Z,Z,Z,Z,Z,Z] rfl rfl qT ?_
           refine pV (i:=10) (N:=some 37) #[Y,Z,Y,Y,Y,Y,Y,Z,Y,Y,Y,Z,Z,Z,Z,Z,Z] rfl rfl qT ?_
           refine pV (i:=11) (N:=some 38) #[Y,Z,Y,Y,Y,Y,Y,Z,Y,Y,Y,Y,Z,Z,Z,Z,Z] rfl rfl qT ?_
           refine tV6 (i:=1) (N:=some 28) #[Y,Y,Y,Y,Y,Y,Y,Z,Y,Y,Y,Y,Z,Z,Z,Z,Z] rfl rfl (take_ofW HT_.out HW_.out (by kernel_rfl)) hHeld ?_
           refine tV6 (i:=7) (N:=some 34) #[Y,Y,Y,Y,Y,Y,Y,Y,Y,Y,Y,Y,Z,Z,Z,Z,Z] rfl rfl (take_ofW HT_.out HW_.out (by kernel_rfl)) hHeld ?_
           refine tV6 (i:=12) (N:=some 39) #[Y,Y,Y,Y,Y,Y,Y,Y,Y,Y,Y,Y,Y,Z,Z,Z,Z] rfl rfl (take_ofW HT_.out HW_.out (by kernel_rfl)) hHeld ?_
           refine one_ (i:=13) (N:=some 40) #[Y,Y,Y,Y,Y,Y,Y,Y,Y,Y,Y,Y,Y,Y,Z,Z,Z] rfl rfl (one_of HT_.out (by kernel_rfl)) (by decide) (fun K hK => ?_);refine goes_ Try.func109 (by kernel_rfl) rfl #[.agg #[.int .i64 a0_0,.int .i64 a0_1,.slice A0_2 l0_2.length c0_2],.int .i64 (rd x7_1 (ji14)),.int .i64 ((rd_T76 l2 x8_1).f0)] (by rfl) rfl rfl (by (try simp only [List.map_toArray,List.map_cons,List.map_nil]);first | done | (simp only [hji14];rfl) | rfl | (simp only [List.length_drop,List.length_take];rfl)) ?_;with_reducible refine (spec_WayTo.calls k1 a0_0 a0_1 _ _ l0_2 (rd x7_1 (ji14)) ((rd_T76 l2 x8_1).f0) t364 _ ?side1 ?side2 A18.out).mono ?_
           (case side1 => exact qq61);(case side2 => exact qq239)
           rintro e w23 ⟨v365,rfl,ho0,hb⟩
           have HS3_:=(hb.cell (bl _ _ (hHeld.2.2.2.1))).trans (hHeld.2.2.2.1);refine ⟨_,rfl,?_⟩;have HO366:=am (Kd.R_lower (Kd.R_new' ho0 (Kd.R_lt qq207)) (below_size qq88));replace HO_7:=am (Kd.R_elder' qq207 (Kd.R_base ho0) hb);replace BK354:=am (blk_below (g:=gb354) (o:=.cells #[.int .i64 a0_0,.int .i64 a0_1,.slice A0_2 l0_2.length c0_2] 51 (0,0)) qq144 hb);replace HB:=am (below_step qq88 hb);(try clear hb);(try clear hb2);(try clear hk);(try clear hi);(try clear ho0);obtain ⟨Ao25,co25,eo25⟩:=Kd.R_slice HO366.out;(first | subst eo25 | (injection eo25 with f1_ f2_ f3_;have f4_:=f1_.symm;have f5_:=f3_.symm;clear f1_ f2_ f3_;subst f4_;subst f5_));have q24 : (1 : Int) ≤ ((t364.length : Int) : Int):=odt qq215;obtain ⟨i024,hi024,_,hsz24,_⟩:=info_parts info3;have hroom24 : t364.length ≤ co25:=(Kd.R_reads' HO366.out).2.1;have hC24 : Kd.C (Kd.int .i64) _ Ao25 t364.length t364:=(Kd.R_reads' HO366.out).2.2;have hcut24:=cut_from (P:=Try.prog) 49 3 .i64 Try.underlying49 hi024 1 hsz24 Ao25 t364.length co25 1 (by omega) q24;have hr24:=Kd.C_drop (m:=(1 : Int).toNat) (c:=co25) hC24 (by omega) hroom24;obtain ⟨A24,hA24⟩ : ∃ A1,A1 = (if co25 = (1 : Int).toNat then Ao25 else (Ao25 : Option Addr).map (·.add ((1 : Int).toNat * 1))):=⟨_,rfl⟩
           obtain ⟨c24,hc24⟩ : ∃ c1,c1 = co25 - (1 : Int).toNat:=⟨_,rfl⟩
           have hy24 : y367.length = t364.length - (1 : Int).toNat:=(by rw [Ny367.out,List.length_drop] <;> omega)
           rw [show (t364).drop (1 : Int).toNat = y367 from Ny367.out.symm] at hr24;replace hr24 : Kd.C (Kd.int .i64) _ A24 y367.length y367:=(by rw [hA24];exact hr24)
           rw [← hy24,← hA24,← hc24] at hcut24;have HR370:=am hr24;have HC370:=am (show y367.length ≤ c24 from by rw [hy24,hc24];exact Nat.sub_le_sub_right hroom24 _);clear hr24 hC24 hroom24 hi024 hsz24 hc24;have KY24:=am hy24;have KA24:=am hA24;clear hy24 hA24;have KL24:=am (show 1 ≤ t364.length from by omega);replace q24:=eq_true q24;refine hK.out _ _ ⟨(blk_cell BK354.out 0).trans rfl,(blk_cell BK354.out 1).trans rfl,(blk_cell BK354.out 2).trans rfl,HS3_,(ct HB.out hw363_0 :),(ct HB.out hw363_1 :)⟩ (fun hHeld => ?_);clear hK K;refine norm_ (a':=?_) ?_ ?_;rotate_left
           ·show Act.put _ (some 40) _ = _
            simp only [Act.put,sA,s0,s1,i64_w,i32_w];rfl
           refine pV (i:=14) (N:=some 41) #[Y,Y,Y,Y,Y,Y,Y,Y,Y,Y,Y,Y,Y,Y,Y,Z,Z] rfl rfl qT ?_
           refine last_ (i:=15) (N:=some 42) #[Y,Y,Y,Y,Y,Y,Y,Y,Y,Y,Y,Y,Y,Y,Y,Y,Z] rfl rfl (one_of HT_.out (by kernel_rfl)) (by decide) (fun K hK => ?_);refine Kd.R_append_rows_step (Kd.int .i64) (w0:=w) w.heap.size (by rfl) (.tmp 27) (.tmp 41) 49 3 (.int .i64 0) 8 rfl Try.underlying49 info3 rfl (by decide) (by omega) (.slice (some ad362) x7_1.length co22) x7_1 y367 _ _ _ (fun k_ => some k_ ≠ (.slice Ao25 t364.length co25 : Value).ownBlock) (fun _ => False) rfl rfl ?aO ?aR (fun _ _ h => h) (fun _ h => h.elim) ?aF ?aB ?aS ?aL ?_;(case aR => repeat (first | exact (by repeat (first | (with_reducible exact HR370.out) | (with_reducible refine cA ?_ _) | (with_reducible refine cN ?_ _) | (with_reducible refine cD ?_) | exact HR370.out)) | (with_reducible refine cA ?_ _) | (with_reducible refine cN ?_ _) | (with_reducible refine cD ?_)));(case aB => exact qq77);(case aF => exact (fun k_ hk => Kd.fresh' (Kd.R_lt qq192) k_ hk));(case aO => exact qq120);(case aS => exact qq54);(case aL => have:=LMc20.out;omega);intro v372 w26 ho hb hg hat;rw [← Ny371.out] at ho;replace BK354:=am (blk_grown (g:=gb354) (o:=.cells #[.int .i64 a0_0,.int .i64 a0_1,.slice A0_2 l0_2.length c0_2] 51 (0,0)) qq144 hg (Kd.R_ne HO_7.out BK354.out (by decide)));replace HB:=am (hb);replace HR370:=am ((show Kd.C (Kd.int .i64) w26 A24 y367.length y367 from by rw [Ny367.out,KA24.out];exact Kd.C_drop (m:=1) (c:=co25) ((Kd.R_reads' (Kd.R_after (ok:=(fun _ => True)) qq192 hg hat)).2.2) KL24.out ((Kd.R_reads' (Kd.R_after (ok:=(fun _ => True)) qq192 hg hat)).2.1)));replace HO366:=am (Kd.R_after (ok:=(fun _ => True)) qq192 hg hat);have HO373:=am (ho);clear HO_7;clear ho hb hg hat;refine hK.out _ _ ?_;clear hK K;refine norm_ (a':=?_) ?_ ?_;rotate_left
           ·show Act.put _ (some 42) _ = _
            simp only [Act.put,sA,s0,s1,i64_w,i32_w];rfl
           refine pV (i:=16) (N:=some 7) #[Y,Y,Y,Y,Y,Y,Y,Y,Y,Y,Y,Y,Y,Y,Y,Y,Y] rfl rfl qT ?_
           refine done_ (done_of HT_.out (by kernel_rfl)) ?_
           try go_wp2
           go_loopg [7,9] k1 (fun kq v7 v9 w' => ∃ (x7_2 : List Int) (x9_2 : Int),v9 = .int .i64 x9_2 ∧ Aside0 (spec_PlanCells.l1 kq l2 x7_2 x8_1 x9_2 a0_0 a0_1 l0_2 = some r) ∧ Aside0 (kq ≤ k1) ∧ Aside0 (Kd.R (Kd.int .i64) 3 w' w.heap.size (fun _ => True) v7 x7_2) ∧ Aside0 (w'.heap[gb354]? = some (.cells #[.int .i64 a0_0,.int .i64 a0_1,(.slice A0_2 l0_2.length c0_2)] 51 (0,0))) ∧ Aside0 (Below w.heap.size w w'))
           case atStart => exact ⟨(y371),(0),qq217,H',⟨Nat.le_refl _⟩,⟨by (with_reducible repeat (first | apply kA | apply kN | apply kD));exact Kd.R_mono HO373.out (fun _ hk => trivial)⟩,⟨qq144⟩,⟨qq88⟩⟩
           case round =>
            clear H'
            try clear c1
            try clear c2
            try clear p2
            try clear q2
            try clear p3
            try clear q3
            try clear hx3
            try clear c5
            try clear c6
            try clear p6
            try clear c10
            try clear c13
            try clear c13b0
            try clear c15
            try clear c15b0
            try clear c16
            try clear c16b0
            try clear c17
            try clear c17b0
            try clear c19
            try clear c19b0
            try clear c19b1
            try clear c20
            try clear c24
            try clear q24
            try clear hcz10_0
            try clear hcz10_1
            try clear hcz10_2
            try clear hfz10_0
            try clear hfz10_1
            try clear hfz10_2
            try clear hx362_0
            try clear hx363_0
            try clear hx363_1
            try clear p2
            try clear p362
            try clear p363
            try clear q24
            try clear q362
            try clear q363
            obtain ⟨x7_2,x9_2,rfl,HA,HK2,HO_7,BK354,HB⟩:=hrel
            cases gk with
            | zero => exact absurd HA.out (by simp [spec_PlanCells.l1])
            | succ k2 =>
             have H:=HA.out;clear HA;simp only [spec_PlanCells.l1] at H
             by_cases c27 : 0 ≤ x8_1
             ·rw [if_pos c27] at H;have c27b0 : decide (0 ≤ x8_1) = true:=decide_eq_true c27;clear c27
              by_cases c28 : x8_1 < (l2.length : Int)
              ·rw [if_pos c28] at H;have c28b0 : decide (x8_1 < (l2.length : Int)) = true:=decide_eq_true c28;clear c28
               by_cases c29 : x9_2 < ((rd_T76 l2 x8_1).f1)
               ·rw [if_pos c29] at H;have c29b0 : decide (x9_2 < ((rd_T76 l2 x8_1).f1)) = true:=decide_eq_true c29;clear c29
                by_cases c30 : x7_2.length < 17592186044416
                ·rw [if_pos c30] at H;have LMc30:=am c30;clear c30;obtain ⟨y376,hy376⟩ : ∃ y_ : List Int,y_ = (x7_2 ++ [(rd_T76 l2 x8_1).f0]):=⟨_,rfl⟩
                 replace H : (spec_PlanCells.l1 k2 l2 y376 x8_1 (wrap64 (x9_2 + 1)) a0_0 a0_1 l0_2) = some r:=by first | (rw [hy376];with_reducible exact H) | (have H2_:=(Option.bind_some _ _).symm.trans H;rw [hy376];with_reducible exact H2_) | (have H2_:=(Option.bind_some _ _).symm.trans H;with_reducible exact H2_) | with_reducible exact H | (rw [hy376];exact H) | exact H
                 have Ny376:=am hy376;clear hy376;have H':=am H;clear H;have p374 : 0 ≤ (x8_1 : Int):=odt qq215;have q374 : x8_1 < (l2.length : Int):=odt qq215;obtain ⟨ad374,e374,hx374_0,hx374_1⟩:=at_T76 HR2.out x8_1 p374 q374;obtain rfl : ad363 = ad374:=(by injection e374)
                 replace hx374_0:=(ct HB.out hx374_0 :)
                 replace hx374_1:=(ct HB.out hx374_1 :)
                 replace p374:=eq_true p374;replace q374:=eq_true q374;have p375 : 0 ≤ (x8_1 : Int):=odt qq215;have q375 : x8_1 < (l2.length : Int):=odt qq215;obtain ⟨ad375,e375,hx375_0,hx375_1⟩:=at_T76 HR2.out x8_1 p375 q375;obtain rfl : ad363 = ad375:=(by injection e375)
                 replace hx375_0:=(ct HB.out hx375_0 :)
                 replace hx375_1:=(ct HB.out hx375_1 :)
                 replace p375:=eq_true p375;replace q375:=eq_true q375;go_wp2_with (first | ((with_reducible refine gate_builtin (b:=.append) (xs:=#[.tmp 52,.tmp 58]) rfl ?_);at_builtin;refine Kd.R_append (Kd.int .i64) (w0:=w) w.heap.size rfl (.tmp 52) (.tmp 58) 49 3 (.int .i64 0) 8 rfl Try.underlying49 info3 rfl (by decide) (by omega) u7 x7_2 ((rd_T76 l2 x8_1).f0) [.int .i64 ((rd_T76 l2 x8_1).f0)] (fun _ => True) (fun _ => False) rfl rfl ?aP (fun _ hk => hk.elim) ?aF ?aO ?aB ?aS ?aL ?_;(case aP => exact rfl);(case aB => exact qq77);(case aF => exact qq235);(case aO => exact qq175);(case aS => exact qq54);(case aL => have:=LMc30.out;omega);intro v377 w31 ho hb hg hat;rw [← Ny376.out] at ho;replace BK354:=am (blk_grown (g:=gb354) (o:=.cells #[.int .i64 a0_0,.int .i64 a0_1,.slice A0_2 l0_2.length c0_2] 51 (0,0)) qq144 hg (Kd.R_ne HO_7.out BK354.out (by decide)));replace HB:=am (hb);have HO378:=am (ho);clear HO_7;clear ho hb hg hat))
                 go_roundg k2
                 case measure => have:=HK1.out;have:=HK2.out;omega
                 case rel => exact ⟨(y376),(wrap64 (x9_2 + 1)),qq217,H',⟨qq221⟩,⟨by (with_reducible repeat (first | apply kA | apply kN | apply kD));exact HO378.out⟩,⟨qq144⟩,⟨qq88⟩⟩
                ·rw [if_neg c30] at H;exact absurd H (by simp)
               ·rw [if_neg c29] at H;have c29b0 : decide (x9_2 < ((rd_T76 l2 x8_1).f1)) = false:=decide_eq_false c29;clear c29;have H':=am H;clear H;have p374 : 0 ≤ (x8_1 : Int):=odt qq215;have q374 : x8_1 < (l2.length : Int):=odt qq215;obtain ⟨ad374,e374,hx374_0,hx374_1⟩:=at_T76 HR2.out x8_1 p374 q374;obtain rfl : ad363 = ad374:=(by injection e374)
                replace hx374_0:=(ct HB.out hx374_0 :)
                replace hx374_1:=(ct HB.out hx374_1 :)
                replace p374:=eq_true p374;replace q374:=eq_true q374;go_wp2
                go_roundg k2
                case measure => have:=HK1.out;have:=HK2.out;omega
                case rel => exact ⟨(x7_2),(wrap64 (x8_1 + 1)),qq217,H',⟨qq221⟩,⟨qq207⟩,⟨qq144⟩,⟨qq88⟩⟩
              ·rw [if_neg c28] at H;exact absurd H (by simp)
             ·rw [if_neg c27] at H;exact absurd H (by simp)
          ·rw [if_neg c20] at H;exact absurd H (by simp)
         ·rw [if_neg c19] at H;exact absurd H (by simp)
        ·rw [if_neg c17] at H;exact absurd H (by simp)
       ·rw [if_neg c16] at H;exact absurd H (by simp)
      ·rw [if_neg c15] at H;exact absurd H (by simp)
     ·rw [if_neg c13] at H;have c13b0 : decide (x8_1 < (l2.length : Int)) = false:=decide_eq_false c13;clear c13;obtain rfl:=Option.some.inj H;go_wp2
      go_ret
      exact ⟨_,qq170,qq207,qq88⟩
  ·rw [if_neg c6] at H;exact absurd H (by simp)
 ·replace c5:=Bool.eq_false_iff.mpr c5;subst c5;have H1 : (some y355) = some r:=by rw [if_neg (show ¬ (false = true) by decide)] at H;exact H
  clear H;have H:=H1;clear H1;obtain rfl:=Option.some.inj H
  go_enter Try.func61,Try.ntmps61
  go_wp2_with (first | ((with_reducible refine gate_dst (N:=3) rfl ?_);refine box_event ?hg (N:=3) ?hd (cs:=#[.int .i64 a0_0,.int .i64 a0_1,.slice A0_2 l0_2.length c0_2]) (t:=51) ?hr ?_;(case hd => rfl);(case hg => rfl);(case hr => exact qq219);intro gb354 hg w32 hbox hb;have BK354:=am (hbox);have GW354:=am ((qq85 : w.heap.size ≤ gb354));have GE354:=am ((qq85 : w.heap.size ≤ gb354));replace HB:=am (below_step qq140 hb);clear hb hbox hg) | ((with_reducible refine gate_dst (N:=10) rfl ?_);refine Kd.R_lit (Kd.int .i64) _ 3 ?hg (N:=10) ?hd (xs:=([] : List Int)) (inner:=[]) (ok:=fun _ => True) (okp:=fun _ => True) ?hr ?hp (fun _ hk => hk) trivial (Below.refl _ _) (Nat.le_refl _) (by simp) ?_;(case hd => rfl);(case hg => rfl);(case hr => exact qq219);(case hp => exact qq237);intro v356 w33 ho34 hb hg_ hnew_;clear hg_ hnew_;(first | rw [← Ny355.out] at ho34 | (simp only [Int.reduceToNat] at ho34;rw [← Ny355.out] at ho34));have HO357:=am (Kd.R_lower ho34 (below_size qq88));replace BK354:=am (blk_below (g:=gb354) (o:=.cells #[.int .i64 a0_0,.int .i64 a0_1,.slice A0_2 l0_2.length c0_2] 51 (0,0)) qq144 hb);replace HB:=am (below_step qq88 hb);clear hb ho34;obtain ⟨hcz35_0,hcz35_1,hcz35_2,hfz35_0,hfz35_1,hfz35_2⟩:=bcl3 BK354.out) | ((with_reducible refine gate_callee (f:=55) rfl ?_);refine goesL_ (some 14) rfl rfl Try.func55 (by kernel_rfl) rfl #[.agg #[.int .i64 a0_0,.int .i64 a0_1,.slice A0_2 l0_2.length c0_2],.int .i64 a1,.slice A2 l2.length c2] rfl qq112 ?_;(with_reducible refine (spec_IsPlan.calls k a0_0 a0_1 _ _ l0_2 a1 _ _ l2 false _ ?side1 ?side2 ?side3 ?side4 A4.out).mono ?_);(case side1 => exact qq61);(case side2 => exact qq239);(case side3 => exact qq75);(case side4 => exact HC2.out);rintro e w36 ⟨rfl,hb⟩;refine ⟨_,rfl,?_⟩;replace HO357:=am (Kd.R_below qq193 hb);replace BK354:=am (blk_below (g:=gb354) (o:=.cells #[.int .i64 a0_0,.int .i64 a0_1,.slice A0_2 l0_2.length c0_2] 51 (0,0)) qq144 hb);replace HB:=am (below_step qq88 hb);(try clear hb);(try clear hb2);(try clear hk);(try clear hi)))
  go_ret
  exact ⟨_,qq170,qq193,qq88⟩

/-! ### laws_markIntS: function 65 -/
def laws_markIntS.l0 : Nat → List Int → Int → Int → Option (Int × List Int)
 | 0,_,_,_ => none
 | k + 1,x0,x1,x5 => if x5 < (x0.length : Int) then (if 0 ≤ x5 then (laws_markIntS.l0 k (x0.set (x5 : Int).toNat x1) (wrap64 (x1 + 1)) (wrap64 (x5 + 1))) else (none)) else (some (x1,x0))
def laws_markIntS.f (k : Nat) (l0 : List Int) (a1 : Int) : Option (Int × List Int) := laws_markIntS.l0 k l0 a1 0
theorem laws_markIntS.mono_l : ∀ k, (∀ y0 y1 y2, LeO (laws_markIntS.l0 k y0 y1 y2) (laws_markIntS.l0 (k + 1) y0 y1 y2))
 | 0 => fun _ _ _ r h => by simp [laws_markIntS.l0] at h
 | k + 1 => by
  have ih0:=laws_markIntS.mono_l k
  ·intro y0 y1 y2
   unfold laws_markIntS.l0
   repeat' first
   | (with_reducible exact ih0 _ _ _)
   | (with_reducible exact LeO.refl _)
   | (with_reducible exact LeO.none _)
   | (with_reducible refine LeO.ite ?_ ?_)
   | (with_reducible refine LeO.bind ?_ (fun _ => ?_))
   | exact ih0 _ _ _
   | exact LeO.none _
   | refine LeO.ite ?_ ?_
   | refine LeO.bind ?_ (fun _ => ?_)
theorem laws_markIntS.mono : ∀ a0 a1 k, LeO (laws_markIntS.f k a0 a1) (laws_markIntS.f (k + 1) a0 a1) := by
 intro a0 a1 k
 have ih0:=laws_markIntS.mono_l k
 unfold laws_markIntS.f
 repeat' first
   | (with_reducible exact ih0 _ _ _)
   | (with_reducible exact LeO.refl _)
   | (with_reducible exact LeO.none _)
   | (with_reducible refine LeO.ite ?_ ?_)
   | (with_reducible refine LeO.bind ?_ (fun _ => ?_))
   | exact ih0 _ _ _
   | exact LeO.none _
   | refine LeO.ite ?_ ?_
   | refine LeO.bind ?_ (fun _ => ?_)
set_option maxHeartbeats 8000000 in
set_option maxRecDepth 100000 in
theorem laws_markIntS.calls (k : Nat) (P0_ : Nat → Prop) (u9000_ : Value) (l0 : List Int) (a1 : Int) (r1 : Int) (r2 : List Int) (w0 w : World) (hB : Below w0.heap.size w0 w) (ho0 : Kd.R (Kd.int .i64) 3 w w0.heap.size P0_ u9000_ l0) (h : laws_markIntS.f k l0 a1 = some (r1, r2)) :
  Calls Try.prog 65 #[u9000_,.int .i64 a1] w fun e w' => e = .returned (.int .i64 r1) ∧ Kd.R (Kd.int .i64) 3 w' w0.heap.size (fun k_ => (P0_ k_ ∨ w.heap.size ≤ k_)) u9000_ r2 ∧ Below w0.heap.size w0 w' ∧ Kept w w' (fun k_ => P0_ k_):=by
 have HO0:=am (show Kd.R (Kd.int .i64) 3 w w0.heap.size (fun k_ => (P0_ k_ ∨ w.heap.size ≤ k_)) u9000_ l0 from Kd.R_mono ho0 (fun k_ hk => (.inl hk)));have HK:=am (Kept.refl w (fun k_ => P0_ k_));have HW0:=am hB.size;have HB:=am hB;clear hB;have H : (laws_markIntS.l0 k l0 a1 0) = some (r1,r2):=h;clear h;have H':=am H;clear H
 go_enter Try.func65,Try.ntmps65
 go_wp2
 go_loopg [1,5] k (fun kq v1 v5 w' => ∃ (x0_1 : List Int) (x1_1 : Int) (x5_1 : Int),v1 = .int .i64 x1_1 ∧ v5 = .int .i64 x5_1 ∧ Aside0 (laws_markIntS.l0 kq x0_1 x1_1 x5_1 = some (r1,r2)) ∧ Aside0 (kq ≤ k) ∧ Aside0 (Kd.R (Kd.int .i64) 3 w' w0.heap.size (fun k_ => (P0_ k_ ∨ w.heap.size ≤ k_)) u9000_ x0_1) ∧ Aside0 (Kept w w' (fun k_ => P0_ k_)) ∧ Aside0 (Below w0.heap.size w0 w'))
 case atStart => exact ⟨(l0),(a1),(0),qq217,qq217,H',⟨Nat.le_refl _⟩,⟨qq211⟩,⟨qq115⟩,⟨qq140⟩⟩
 case round =>
  clear H'
  try clear p2
  obtain ⟨x0_1,x1_1,x5_1,rfl,rfl,HA,HK1,HO_0,HK,HB⟩:=hrel
  cases gk with
  | zero => exact absurd HA.out (by simp [laws_markIntS.l0])
  | succ k1 =>
   have H:=HA.out;clear HA;simp only [laws_markIntS.l0] at H
   by_cases c3 : x5_1 < (x0_1.length : Int)
   ·rw [if_pos c3] at H;have c3b0 : decide (x5_1 < (x0_1.length : Int)) = true:=decide_eq_true c3;clear c3
    by_cases c4 : 0 ≤ x5_1
    ·rw [if_pos c4] at H;have c4b0 : decide (0 ≤ x5_1) = true:=decide_eq_true c4;clear c4;obtain ⟨y379,hy379⟩ : ∃ y_ : List Int,y_ = (x0_1.set (x5_1 : Int).toNat x1_1):=⟨_,rfl⟩
     replace H : (laws_markIntS.l0 k1 y379 (wrap64 (x1_1 + 1)) (wrap64 (x5_1 + 1))) = some (r1,r2):=by first | (rw [hy379];with_reducible exact H) | (have H2_:=(Option.bind_some _ _).symm.trans H;rw [hy379];with_reducible exact H2_) | (have H2_:=(Option.bind_some _ _).symm.trans H;with_reducible exact H2_) | with_reducible exact H | (rw [hy379];exact H) | exact H
     have Ny379:=am hy379;clear hy379;have H':=am H;clear H;obtain ⟨Ao6,co6,eo6⟩:=Kd.R_slice HO_0.out;subst eo6;have p5 : 0 ≤ (x5_1 : Int):=odt qq215;have q5 : (x5_1 : Int) < ((x0_1.length : Int) : Int):=odt qq215;obtain ⟨go5,co5,eo5,gb5,gl5,cl5,HG5⟩:=Kd.R_form HO_0.out (by omega);(first | cases eo5 | (injection eo5 with ea_ en_ ec_;(first | subst ea_ | (injection ea_ with ea_;subst ea_));subst ec_;clear en_));have GB5:=am gb5;have GG5:=am HG5;clear gb5 gl5 HG5;have HMgo5:=am (show (P0_ go5 ∨ w.heap.size ≤ go5) from (HO_0.out.1 _ rfl));obtain ⟨hx5_0,hf5_0⟩:=Kd.R_celln 0 HO_0.out (x5_1 : Int) p5 q5;replace p5:=eq_true p5;replace q5:=eq_true q5;have HP7:=Kd.R_putg HO_0.out (x5_1 : Int) x1_1;go_wp2_with (first | ((with_reducible refine gate_store (t:=3) (p:=15) rfl ?_);refine store_event (t:=3) (p:=15) (v:=?vo_w8) (w1:=(wr.setCell ⟨go5,(x5_1 : Int).toNat,none⟩ (.int .i64 x1_1))) ?hg ?ho ?hn ?hr ?_;(case ho => rfl);(case hg => rfl);(case hn => rfl);(case hr => exact qq219);intro w8 hw;have hg : wr.grownBy w8 (some go5):=(by rw [hw];exact HP7.2);have hp_ : Kd.R (Kd.int .i64) 3 w8 w0.heap.size (fun k_ => (P0_ k_ ∨ w.heap.size ≤ k_)) (.slice (some ⟨go5,0,none⟩) x0_1.length co6) y379:=(by rw [hw,Ny379.out];exact HP7.1);clear HP7;replace HB:=am ((qq218 : Below w0.heap.size w0 w8));replace HK:=am (Kept.of_grown (S:=(fun k_ => P0_ k_)) hg qq115 (fun k_ e_ => (HO_0.out.1 k_ e_)));replace HO_0:=am (hp_);clear hg hw hp_))
     go_roundg k1
     case measure => have:=HK1.out;omega
     case rel => exact ⟨(y379),(wrap64 (x1_1 + 1)),(wrap64 (x5_1 + 1)),qq217,qq217,H',⟨qq238⟩,⟨qq210⟩,⟨qq115⟩,⟨qq140⟩⟩
    ·rw [if_neg c4] at H;exact absurd H (by simp)
   ·rw [if_neg c3] at H;have c3b0 : decide (x5_1 < (x0_1.length : Int)) = false:=decide_eq_false c3;clear c3;simp only [Option.some.injEq,Prod.mk.injEq] at H;obtain ⟨rfl,rfl⟩:=H;obtain ⟨Ao9,co9,eo9⟩:=Kd.R_slice HO_0.out;subst eo9;go_wp2
    go_ret
    exact ⟨qq170,qq210,qq140,qq115⟩

/-! ### laws_markLand: function 63 -/
def laws_markLand.f (k : Nat) (a0_0 : Int) (a0_1 : Int) (l0_2 : List Int) (a1 : Int) : Option (Int × List Int) := (laws_markIntS.f k l0_2 a1).bind fun bt381 => (some (bt381.1, bt381.2))
theorem laws_markLand.mono : ∀ a0 a1 a2 a3 k, LeO (laws_markLand.f k a0 a1 a2 a3) (laws_markLand.f (k + 1) a0 a1 a2 a3) := by
 intro a0 a1 a2 a3 k
 unfold laws_markLand.f
 repeat' first
   | (with_reducible exact laws_markIntS.mono _ _ _)
   | (with_reducible exact LeO.refl _)
   | (with_reducible exact LeO.none _)
   | (with_reducible refine LeO.ite ?_ ?_)
   | (with_reducible refine LeO.bind ?_ (fun _ => ?_))
   | exact laws_markIntS.mono _ _ _
   | exact LeO.none _
   | refine LeO.ite ?_ ?_
   | refine LeO.bind ?_ (fun _ => ?_)
set_option maxHeartbeats 8000000 in
set_option maxRecDepth 100000 in
theorem laws_markLand.calls (k : Nat) (a0_0 : Int) (a0_1 : Int) (P0_2_ : Nat → Prop) (u9000_ : Value) (l0_2 : List Int) (a1 : Int) (r1 : Int) (r2 : List Int) (w0 w : World) (hB : Below w0.heap.size w0 w) (ho0_2 : Kd.R (Kd.int .i64) 3 w w0.heap.size P0_2_ u9000_ l0_2) (h : laws_markLand.f k a0_0 a0_1 l0_2 a1 = some (r1, r2)) :
  Calls Try.prog 63 #[.agg #[.int .i64 a0_0,.int .i64 a0_1,u9000_],.int .i64 a1] w fun e w' => e = .returned (.int .i64 r1) ∧ Kd.R (Kd.int .i64) 3 w' w0.heap.size (fun k_ => (P0_2_ k_ ∨ w.heap.size ≤ k_)) u9000_ r2 ∧ Below w0.heap.size w0 w' ∧ Kept w w' (fun k_ => P0_2_ k_):=by
 have hu51:=Try.underlying51;have HO0_2:=am (show Kd.R (Kd.int .i64) 3 w w0.heap.size (fun k_ => (P0_2_ k_ ∨ w.heap.size ≤ k_)) u9000_ l0_2 from Kd.R_mono ho0_2 (fun k_ hk => (.inl hk)));have HK:=am (Kept.refl w (fun k_ => P0_2_ k_));have HW0:=am hB.size;have HB:=am hB;clear hB;have H : ((laws_markIntS.f k l0_2 a1).bind fun bt381 => (some (bt381.1,bt381.2))) = some (r1,r2):=h;clear h;replace H:=bS.mp H;obtain ⟨⟨t381,t382⟩,A30,H⟩:=H;replace H : (some (t381,t382)) = some (r1,r2):=H;have A3:=am A30;clear A30;simp only [Option.some.injEq,Prod.mk.injEq] at H;obtain ⟨rfl,rfl⟩:=H;obtain ⟨Ao4,co4,eo4⟩:=Kd.R_slice HO0_2.out;subst eo4
 go_enter Try.func63,Try.ntmps63
 go_wp2_with (first | ((with_reducible refine gate_dst (N:=2) rfl ?_);refine box_event ?hg (N:=2) ?hd (cs:=#[.int .i64 a0_0,.int .i64 a0_1,.slice Ao4 l0_2.length co4]) (t:=51) ?hr ?_;(case hd => rfl);(case hg => rfl);(case hr => exact qq219);intro gb380 hg w5 hbox hb;replace HO0_2:=am (Kd.R_below qq203 hb);have BK380:=am (hbox);have GW380:=am ((by rw [hg];exact (by first | exact HK.out.1 | exact (show Kept w _ (fun k_ => P0_2_ k_) from by repeat (first | (with_reducible first | exact HK.out | apply Kept.alloc | apply Kept.drewN | apply Kept.drew) | exact HK.out)).1) : w.heap.size ≤ gb380));replace HK:=am (Kept.below (S:=(fun k_ => P0_2_ k_)) qq115 hb);have GE380:=am ((qq85 : w0.heap.size ≤ gb380));replace HB:=am (below_step qq140 hb);clear hb hbox hg;obtain ⟨hcz6_0,hcz6_1,hcz6_2,hfz6_0,hfz6_1,hfz6_2⟩:=bcl3 BK380.out) | ((with_reducible refine gate_callee (f:=65) rfl ?_);refine goesL_ (some 8) rfl rfl Try.func65 (by kernel_rfl) rfl #[.slice Ao4 l0_2.length co4,.int .i64 a1] rfl qq112 ?_;(with_reducible refine (laws_markIntS.calls k (fun k_ => some k_ = (.slice Ao4 l0_2.length co4 : Value).ownBlock) (.slice Ao4 l0_2.length co4) l0_2 a1 t381 t382 w0 _ ?side1 ?side2 A3.out).mono ?_);(case side1 => exact qq87);(case side2 => exact Kd.R_tight rfl HO0_2.out);rintro e w7 ⟨rfl,hy0,hb,hkp⟩;refine ⟨_,rfl,?_⟩;replace BK380:=am (blk_kept (by (with_reducible repeat (first | refine dN ?_ _ | refine dD ?_ | refine dA ?_ _));exact BK380.out) hkp (fun hs_ => (fun e_ => (Kd.R_ne HO0_2.out BK380.out (by decide)) e_) hs_));replace HK:=am (Kept.then_ (S:=(fun k_ => P0_2_ k_)) qq36 hkp (fun k_ hs_ => (fun e_ => (HO0_2.out.1 k_ e_.symm)) hs_));replace HO0_2:=am (Kd.R_reok rfl hy0 (fun k_ e_ => HO0_2.out.1 k_ e_));replace HB:=am (hb);(try clear hb);(try clear hkp);(try clear hy0)))
 go_ret
 exact ⟨qq170,qq203,qq87,qq36⟩

/-! ### laws_markLegS: function 64 -/
def laws_markLegS.l0 : Nat → List (S76) → Int → Int → Option (Int × (List (S76)))
 | 0,_,_,_ => none
 | k + 1,x0,x1,x5 => if x5 < (x0.length : Int) then (if 0 ≤ x5 then ((some (x0.set (x5 : Int).toNat (⟨x1,(rd_T76 x0 x5).f1⟩ : S76) : List (S76))).bind fun y383 => (laws_markLegS.l0 k (y383.set (x5 : Int).toNat (⟨(rd_T76 y383 x5).f0,wrap64 (x1 + 1)⟩ : S76)) (wrap64 ((wrap64 (x1 + 1)) + 1)) (wrap64 (x5 + 1)))) else (none)) else (some (x1,x0))
def laws_markLegS.f (k : Nat) (l0 : List (S76)) (a1 : Int) : Option (Int × (List (S76))) := laws_markLegS.l0 k l0 a1 0
theorem laws_markLegS.mono_l : ∀ k, (∀ y0 y1 y2, LeO (laws_markLegS.l0 k y0 y1 y2) (laws_markLegS.l0 (k + 1) y0 y1 y2))
 | 0 => fun _ _ _ r h => by simp [laws_markLegS.l0] at h
 | k + 1 => by
  have ih0:=laws_markLegS.mono_l k
  ·intro y0 y1 y2
   unfold laws_markLegS.l0
   repeat' first
   | (with_reducible exact ih0 _ _ _)
   | (with_reducible exact LeO.refl _)
   | (with_reducible exact LeO.none _)
   | (with_reducible refine LeO.ite ?_ ?_)
   | (with_reducible refine LeO.bind ?_ (fun _ => ?_))
   | exact ih0 _ _ _
   | exact LeO.none _
   | refine LeO.ite ?_ ?_
   | refine LeO.bind ?_ (fun _ => ?_)
theorem laws_markLegS.mono : ∀ a0 a1 k, LeO (laws_markLegS.f k a0 a1) (laws_markLegS.f (k + 1) a0 a1) := by
 intro a0 a1 k
 have ih0:=laws_markLegS.mono_l k
 unfold laws_markLegS.f
 repeat' first
   | (with_reducible exact ih0 _ _ _)
   | (with_reducible exact LeO.refl _)
   | (with_reducible exact LeO.none _)
   | (with_reducible refine LeO.ite ?_ ?_)
   | (with_reducible refine LeO.bind ?_ (fun _ => ?_))
   | exact ih0 _ _ _
   | exact LeO.none _
   | refine LeO.ite ?_ ?_
   | refine LeO.bind ?_ (fun _ => ?_)
set_option maxHeartbeats 8000000 in
set_option maxRecDepth 100000 in
theorem laws_markLegS.calls (k : Nat) (P0_ : Nat → Prop) (u9000_ : Value) (l0 : List (S76)) (a1 : Int) (r1 : Int) (r2 : List (S76)) (w0 w : World) (hB : Below w0.heap.size w0 w) (ho0 : Kd.R k76 76 w w0.heap.size P0_ u9000_ l0) (h : laws_markLegS.f k l0 a1 = some (r1, r2)) :
  Calls Try.prog 64 #[u9000_,.int .i64 a1] w fun e w' => e = .returned (.int .i64 r1) ∧ Kd.R k76 76 w' w0.heap.size (fun k_ => (P0_ k_ ∨ w.heap.size ≤ k_)) u9000_ r2 ∧ Below w0.heap.size w0 w' ∧ Kept w w' (fun k_ => P0_ k_):=by
 have HO0:=am (show Kd.R k76 76 w w0.heap.size (fun k_ => (P0_ k_ ∨ w.heap.size ≤ k_)) u9000_ l0 from Kd.R_mono ho0 (fun k_ hk => (.inl hk)));have HK:=am (Kept.refl w (fun k_ => P0_ k_));have HW0:=am hB.size;have HB:=am hB;clear hB;have H : (laws_markLegS.l0 k l0 a1 0) = some (r1,r2):=h;clear h;have H':=am H;clear H
 go_enter Try.func64,Try.ntmps64
 go_wp2
 go_loopg [1,5] k (fun kq v1 v5 w' => ∃ (x0_1 : List (S76)) (x1_1 : Int) (x5_1 : Int),v1 = .int .i64 x1_1 ∧ v5 = .int .i64 x5_1 ∧ Aside0 (laws_markLegS.l0 kq x0_1 x1_1 x5_1 = some (r1,r2)) ∧ Aside0 (kq ≤ k) ∧ Aside0 (Kd.R k76 76 w' w0.heap.size (fun k_ => (P0_ k_ ∨ w.heap.size ≤ k_)) u9000_ x0_1) ∧ Aside0 (Kept w w' (fun k_ => P0_ k_)) ∧ Aside0 (Below w0.heap.size w0 w'))
 case atStart => exact ⟨(l0),(a1),(0),qq217,qq217,H',⟨Nat.le_refl _⟩,⟨qq211⟩,⟨qq115⟩,⟨qq140⟩⟩
 case round =>
  clear H'
  try clear p2
  obtain ⟨x0_1,x1_1,x5_1,rfl,rfl,HA,HK1,HO_0,HK,HB⟩:=hrel
  cases gk with
  | zero => exact absurd HA.out (by simp [laws_markLegS.l0])
  | succ k1 =>
   have H:=HA.out;clear HA;simp only [laws_markLegS.l0] at H
   by_cases c3 : x5_1 < (x0_1.length : Int)
   ·rw [if_pos c3] at H;have c3b0 : decide (x5_1 < (x0_1.length : Int)) = true:=decide_eq_true c3;clear c3
    by_cases c4 : 0 ≤ x5_1
    ·rw [if_pos c4] at H;have c4b0 : decide (0 ≤ x5_1) = true:=decide_eq_true c4;clear c4;obtain ⟨y383,hy383⟩ : ∃ y_ : List (S76),y_ = (x0_1.set (x5_1 : Int).toNat (⟨x1_1,(rd_T76 x0_1 x5_1).f1⟩ : S76)):=⟨_,rfl⟩
     replace H : (laws_markLegS.l0 k1 (y383.set (x5_1 : Int).toNat (⟨(rd_T76 y383 x5_1).f0,wrap64 (x1_1 + 1)⟩ : S76)) (wrap64 ((wrap64 (x1_1 + 1)) + 1)) (wrap64 (x5_1 + 1))) = some (r1,r2):=by first | (rw [hy383];with_reducible exact H) | (have H2_:=(Option.bind_some _ _).symm.trans H;rw [hy383];with_reducible exact H2_) | (have H2_:=(Option.bind_some _ _).symm.trans H;with_reducible exact H2_) | with_reducible exact H | (rw [hy383];exact H) | exact H
     have Ny383:=am hy383;clear hy383;obtain ⟨y384,hy384⟩ : ∃ y_ : List (S76),y_ = (y383.set (x5_1 : Int).toNat (⟨(rd_T76 y383 x5_1).f0,wrap64 (x1_1 + 1)⟩ : S76)):=⟨_,rfl⟩
     replace H : (laws_markLegS.l0 k1 y384 (wrap64 ((wrap64 (x1_1 + 1)) + 1)) (wrap64 (x5_1 + 1))) = some (r1,r2):=by first | (rw [hy384];with_reducible exact H) | (have H2_:=(Option.bind_some _ _).symm.trans H;rw [hy384];with_reducible exact H2_) | (have H2_:=(Option.bind_some _ _).symm.trans H;with_reducible exact H2_) | with_reducible exact H | (rw [hy384];exact H) | exact H
     have Ny384:=am hy384;clear hy384;have H':=am H;clear H;obtain ⟨Ao7,co7,eo7⟩:=Kd.R_slice HO_0.out;subst eo7;have p5 : 0 ≤ (x5_1 : Int):=odt qq215;have q5 : (x5_1 : Int) < ((x0_1.length : Int) : Int):=odt qq215;obtain ⟨go5,co5,eo5,gb5,gl5,cl5,HG5⟩:=Kd.R_form HO_0.out (by omega);(first | cases eo5 | (injection eo5 with ea_ en_ ec_;(first | subst ea_ | (injection ea_ with ea_;subst ea_));subst ec_;clear en_));have GB5:=am gb5;have GG5:=am HG5;clear gb5 gl5 HG5;have HMgo5:=am (show (P0_ go5 ∨ w.heap.size ≤ go5) from (HO_0.out.1 _ rfl));obtain ⟨ce5,hcl5,hM5,hcc5,hfr5⟩:=Kd.R_elem HO_0.out z76 (x5_1 : Int) p5 q5;obtain rfl:=k76_openM hM5;have hx5_0 : wr.cell? ⟨go5,(x5_1 : Int).toNat * 2,none⟩ = some (.int .i64 ((rd_T76 x0_1 x5_1).f0)):=hcc5 0 _ rfl;have hx5_1 : wr.cell? ⟨go5,(x5_1 : Int).toNat * 2 + 1,none⟩ = some (.int .i64 ((rd_T76 x0_1 x5_1).f1)):=hcc5 1 _ rfl;have hf5_0 : wr.frozen? ⟨go5,(x5_1 : Int).toNat * 2,none⟩ = false:=hfr5 0;have hf5_1 : wr.frozen? ⟨go5,(x5_1 : Int).toNat * 2 + 1,none⟩ = false:=hfr5 1;clear hcl5 hcc5 hfr5 hM5;replace p5:=eq_true p5;replace q5:=eq_true q5;have HX8:=am (show Kd.R k76 76 wr w0.heap.size (fun k_ => (P0_ k_ ∨ w.heap.size ≤ k_)) (.slice (some ⟨go5,0,none⟩) x0_1.length co7) x0_1 from qq210);obtain ⟨ce8,hcl8,hM8,hcc8,hfr8⟩:=Kd.R_elem HX8.out z76 (x5_1 : Int) (odt qq215) qq32;obtain rfl:=k76_openM hM8;have HP8:=Kd.R_seg HX8.out (x5_1 : Int) (odt qq215) qq32 (seg:=[.int .i64 x1_1]) (j:=0) hcl8 hcc8 (show 1 ≤ 2 from by decide) (x':=(⟨x1_1,(rd_T76 x0_1 x5_1).f1⟩ : S76)) (k76_mkM _ _ _ (⟨x1_1,(rd_T76 x0_1 x5_1).f1⟩ : S76) ) (fun _ hk => hk);have hx8_0:=hcc8 0 _ rfl;(try simp only [show (k76).sz = 2 from rfl,Nat.mul_one,Nat.add_zero] at hx8_0);have hf8_0:=hfr8 0;(try simp only [show (k76).sz = 2 from rfl,Nat.mul_one,Nat.add_zero] at hf8_0);clear hcl8 hcc8 hfr8 hM8;go_wp2_with (first | ((with_reducible refine gate_store (t:=3) (p:=16) rfl ?_);refine store_event (t:=3) (p:=16) (v:=?vo_w9) (w1:=(wr.setCell ⟨go5,(x5_1 : Int).toNat * 2,none⟩ (.int .i64 x1_1))) ?hg ?ho ?hn ?hr ?_;(case ho => rfl);(case hg => rfl);(case hn => rfl);(case hr => exact qq219);intro w9 hw;have hg : wr.grownBy w9 (some go5):=(by rw [hw];exact HP8.2);have hp_ : Kd.R k76 76 w9 w0.heap.size (fun k_ => (P0_ k_ ∨ w.heap.size ≤ k_)) (.slice (some ⟨go5,0,none⟩) x0_1.length co7) y383:=(by rw [hw,Ny383.out];exact HP8.1);clear HP8;replace HB:=am ((qq218 : Below w0.heap.size w0 w9));replace HK:=am (Kept.of_grown (S:=(fun k_ => P0_ k_)) hg qq115 (fun k_ e_ => (HO_0.out.1 k_ e_)));replace HO_0:=am (hp_);clear hg hw hp_;have p6 : 0 ≤ (x5_1 : Int):=odt qq215;have q6 : (x5_1 : Int) < ((x0_1.length : Int) : Int):=odt qq215;obtain ⟨ce6,hcl6,hM6,hcc6,hfr6⟩:=Kd.R_elem HO_0.out z76 (x5_1 : Int) p6 q6;obtain rfl:=k76_openM hM6;have hx6_0 : w9.cell? ⟨go5,(x5_1 : Int).toNat * 2,none⟩ = some (.int .i64 ((rd_T76 y383 x5_1).f0)):=hcc6 0 _ rfl;have hx6_1 : w9.cell? ⟨go5,(x5_1 : Int).toNat * 2 + 1,none⟩ = some (.int .i64 ((rd_T76 y383 x5_1).f1)):=hcc6 1 _ rfl;have hf6_0 : w9.frozen? ⟨go5,(x5_1 : Int).toNat * 2,none⟩ = false:=hfr6 0;have hf6_1 : w9.frozen? ⟨go5,(x5_1 : Int).toNat * 2 + 1,none⟩ = false:=hfr6 1;clear hcl6 hcc6 hfr6;(try clear hM6);replace p6:=eq_true p6;replace q6:=eq_true q6;have HX10:=am (show Kd.R k76 76 w9 w0.heap.size (fun k_ => (P0_ k_ ∨ w.heap.size ≤ k_)) (.slice (some ⟨go5,0,none⟩) x0_1.length co7) y383 from qq210);obtain ⟨ce10,hcl10,hM10,hcc10,hfr10⟩:=Kd.R_elem HX10.out z76 (x5_1 : Int) (odt qq215) qq32;obtain rfl:=k76_openM hM10;have HP10:=Kd.R_seg HX10.out (x5_1 : Int) (odt qq215) qq32 (seg:=[.int .i64 (wrap64 (x1_1 + 1))]) (j:=1) hcl10 hcc10 (show 2 ≤ 2 from by decide) (x':=(⟨(rd_T76 y383 x5_1).f0,wrap64 (x1_1 + 1)⟩ : S76)) (k76_mkM _ _ _ (⟨(rd_T76 y383 x5_1).f0,wrap64 (x1_1 + 1)⟩ : S76) ) (fun _ hk => hk);have hx10_1:=hcc10 1 _ rfl;(try simp only [show (k76).sz = 2 from rfl,Nat.mul_one,Nat.add_zero] at hx10_1);have hf10_1:=hfr10 1;(try simp only [show (k76).sz = 2 from rfl,Nat.mul_one,Nat.add_zero] at hf10_1);clear hcl10 hcc10 hfr10 hM10) | ((with_reducible refine gate_store (t:=3) (p:=23) rfl ?_);refine store_event (t:=3) (p:=23) (v:=?vo_w11) (w1:=(w9.setCell ⟨go5,(x5_1 : Int).toNat * 2 + 1,none⟩ (.int .i64 (wrap64 (x1_1 + 1))))) ?hg ?ho ?hn ?hr ?_;(case ho => rfl);(case hg => rfl);(case hn => rfl);(case hr => exact qq219);intro w11 hw;have hg : w9.grownBy w11 (some go5):=(by rw [hw];exact HP10.2);have hp_ : Kd.R k76 76 w11 w0.heap.size (fun k_ => (P0_ k_ ∨ w.heap.size ≤ k_)) (.slice (some ⟨go5,0,none⟩) x0_1.length co7) y384:=(by rw [hw,Ny384.out];exact HP10.1);clear HP10;replace HB:=am ((qq218 : Below w0.heap.size w0 w11));replace HK:=am (Kept.of_grown (S:=(fun k_ => P0_ k_)) hg qq115 (fun k_ e_ => (HO_0.out.1 k_ e_)));replace HO_0:=am (hp_);clear hg hw hp_))
     go_roundg k1
     case measure => have:=HK1.out;omega
     case rel => exact ⟨(y384),(wrap64 ((wrap64 (x1_1 + 1)) + 1)),(wrap64 (x5_1 + 1)),qq217,qq217,H',⟨qq238⟩,⟨qq210⟩,⟨qq115⟩,⟨qq140⟩⟩
    ·rw [if_neg c4] at H;exact absurd H (by simp)
   ·rw [if_neg c3] at H;have c3b0 : decide (x5_1 < (x0_1.length : Int)) = false:=decide_eq_false c3;clear c3;simp only [Option.some.injEq,Prod.mk.injEq] at H;obtain ⟨rfl,rfl⟩:=H;obtain ⟨Ao12,co12,eo12⟩:=Kd.R_slice HO_0.out;subst eo12;go_wp2
    go_ret
    exact ⟨qq170,qq210,qq140,qq115⟩

end Go.Proofs.Ytcbkknpmeknppaa.PFnExactPlanCells
