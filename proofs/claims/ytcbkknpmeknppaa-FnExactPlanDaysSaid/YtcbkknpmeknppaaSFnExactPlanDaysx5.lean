/- Contracts of functions that the law FnExactPlanDays reaches, for its row: lines that the kit's printer wrote for this claim, set shorter by a program of this session (own.py), and what fell in Lean proved anew. Lean checks them. -/
import Derived.Test.YtcbkknpmeknppaaSFnExactPlanDaysx0
import Derived.Test.YtcbkknpmeknppaaSFnExactPlanDaysx4
namespace Go.Proofs.Ytcbkknpmeknppaa.PFnExactPlanDays
open Go.RowKit Go.Proofs.YtcbkknpmeknppaaW.PrintWords Go.Proofs.YtcbkknpmeknppaaW.PrintLast Go.Proofs.YtcbkknpmeknppaaW.PrintMore
attribute [local go_sem] max2_int min2_int max_two min_two max_three min_three max_four min_four   -- for this text's walks alone
set_option linter.unusedVariables false
set_option linter.unusedSimpArgs false

/-! ### impl_PlanCells: function 45 -/
mutual
def impl_PlanCells.l0 : Nat → Int → List Int → List (S76) → Int → Int → Int → Int → List Int → Option (List Int)
 | 0,_,_,_,_,_,_,_,_ => none
 | k + 1,x1,x7,x17,x18,x19,x206000,x206001,x206002 => if x19 < x18 then (if 0 ≤ x19 then (if x19 < (x17.length : Int) then ((impl_WayTo.f k x206000 x206001 x206002 x1 ((rd_T76 x17 x19).f0)).bind fun t212 => (if 1 ≤ (t212.length : Int) then ((some (t212.drop 1 : List Int)).bind fun y215 => (if x7.length + y215.length < 17592186044416 then (impl_PlanCells.l1 k (x7 ++ y215) x17 x18 x19 ((rd_T76 x17 x19).f1) 0 x206000 x206001 x206002 ((rd_T76 x17 x19).f0) ((rd_T76 x17 x19).f1)) else (none))) else (none))) else (none)) else (none)) else (some x7)
def impl_PlanCells.l1 : Nat → List Int → List (S76) → Int → Int → Int → Int → Int → Int → List Int → Int → Int → Option (List Int)
 | 0,_,_,_,_,_,_,_,_,_,_,_ => none
 | k + 1,x7,x17,x18,x19,x32,x33,x206000,x206001,x206002,x212000,x212001 => if x33 < x32 then (if x7.length < 17592186044416 then (impl_PlanCells.l1 k (x7 ++ [x212000]) x17 x18 x19 x32 (wrap64 (x33 + 1)) x206000 x206001 x206002 x212000 x212001) else (none)) else (impl_PlanCells.l0 k x212000 x7 x17 x18 (wrap64 (x19 + 1)) x206000 x206001 x206002)
end
def impl_PlanCells.f (k : Nat) (a0_0 : Int) (a0_1 : Int) (l0_2 : List Int) (a1 : Int) (l2 : List (S76)) : Option (List Int) := (impl_IsPlan.f k a0_0 a0_1 l0_2 a1 l2).bind fun t206 => (if t206 = true then (impl_PlanCells.l0 k a1 (([a1] : List Int)) l2 (l2.length : Int) 0 a0_0 a0_1 l0_2) else (some ([] : List Int)))
theorem impl_PlanCells.mono_l : ∀ k, (∀ y0 y1 y2 y3 y4 y5 y6 y7, LeO (impl_PlanCells.l0 k y0 y1 y2 y3 y4 y5 y6 y7) (impl_PlanCells.l0 (k + 1) y0 y1 y2 y3 y4 y5 y6 y7)) ∧ (∀ y0 y1 y2 y3 y4 y5 y6 y7 y8 y9 y10, LeO (impl_PlanCells.l1 k y0 y1 y2 y3 y4 y5 y6 y7 y8 y9 y10) (impl_PlanCells.l1 (k + 1) y0 y1 y2 y3 y4 y5 y6 y7 y8 y9 y10))
 | 0 => ⟨fun _ _ _ _ _ _ _ _ r h => by simp [impl_PlanCells.l0] at h,fun _ _ _ _ _ _ _ _ _ _ _ r h => by simp [impl_PlanCells.l1] at h⟩
 | k + 1 => by
  obtain ⟨ih0,ih1⟩:=impl_PlanCells.mono_l k
  refine ⟨?_,?_⟩
  ·intro y0 y1 y2 y3 y4 y5 y6 y7
   unfold impl_PlanCells.l0
   repeat' first
   | (with_reducible exact ih0 _ _ _ _ _ _ _ _)
   | (with_reducible exact ih1 _ _ _ _ _ _ _ _ _ _ _)
   | (with_reducible exact impl_IsPlan.mono _ _ _ _ _ _)
   | (with_reducible exact impl_WayTo.mono _ _ _ _ _ _)
   | (with_reducible exact LeO.refl _)
   | (with_reducible exact LeO.none _)
   | (with_reducible refine LeO.ite ?_ ?_)
   | (with_reducible refine LeO.bind ?_ (fun _ => ?_))
   | exact ih0 _ _ _ _ _ _ _ _
   | exact ih1 _ _ _ _ _ _ _ _ _ _ _
   | exact impl_IsPlan.mono _ _ _ _ _ _
   | exact impl_WayTo.mono _ _ _ _ _ _
   | exact LeO.none _
   | refine LeO.ite ?_ ?_
   | refine LeO.bind ?_ (fun _ => ?_)
  ·intro y0 y1 y2 y3 y4 y5 y6 y7 y8 y9 y10
   unfold impl_PlanCells.l1
   repeat' first
   | (with_reducible exact ih0 _ _ _ _ _ _ _ _)
   | (with_reducible exact ih1 _ _ _ _ _ _ _ _ _ _ _)
   | (with_reducible exact impl_IsPlan.mono _ _ _ _ _ _)
   | (with_reducible exact impl_WayTo.mono _ _ _ _ _ _)
   | (with_reducible exact LeO.refl _)
   | (with_reducible exact LeO.none _)
   | (with_reducible refine LeO.ite ?_ ?_)
   | (with_reducible refine LeO.bind ?_ (fun _ => ?_))
   | exact ih0 _ _ _ _ _ _ _ _
   | exact ih1 _ _ _ _ _ _ _ _ _ _ _
   | exact impl_IsPlan.mono _ _ _ _ _ _
   | exact impl_WayTo.mono _ _ _ _ _ _
   | exact LeO.none _
   | refine LeO.ite ?_ ?_
   | refine LeO.bind ?_ (fun _ => ?_)
theorem impl_PlanCells.mono : ∀ a0 a1 a2 a3 a4 k, LeO (impl_PlanCells.f k a0 a1 a2 a3 a4) (impl_PlanCells.f (k + 1) a0 a1 a2 a3 a4) := by
 intro a0 a1 a2 a3 a4 k
 obtain ⟨ih0,ih1⟩:=impl_PlanCells.mono_l k
 unfold impl_PlanCells.f
 repeat' first
   | (with_reducible exact ih0 _ _ _ _ _ _ _ _)
   | (with_reducible exact ih1 _ _ _ _ _ _ _ _ _ _ _)
   | (with_reducible exact impl_IsPlan.mono _ _ _ _ _ _)
   | (with_reducible exact impl_WayTo.mono _ _ _ _ _ _)
   | (with_reducible exact LeO.refl _)
   | (with_reducible exact LeO.none _)
   | (with_reducible refine LeO.ite ?_ ?_)
   | (with_reducible refine LeO.bind ?_ (fun _ => ?_))
   | exact ih0 _ _ _ _ _ _ _ _
   | exact ih1 _ _ _ _ _ _ _ _ _ _ _
   | exact impl_IsPlan.mono _ _ _ _ _ _
   | exact impl_WayTo.mono _ _ _ _ _ _
   | exact LeO.none _
   | refine LeO.ite ?_ ?_
   | refine LeO.bind ?_ (fun _ => ?_)
set_option maxHeartbeats 8000000 in
set_option maxRecDepth 100000 in
theorem impl_PlanCells.calls (k : Nat) (a0_0 : Int) (a0_1 : Int) (A0_2 : Option Addr) (c0_2 : Nat) (l0_2 : List Int) (a1 : Int) (A2 : Option Addr) (c2 : Nat) (l2 : List (S76)) (r : List Int) (w : World) (hr0_2 : Kd.C (Kd.int .i64) w A0_2 l0_2.length l0_2) (hc0_2 : l0_2.length ≤ c0_2) (hr2 : Kd.C k76 w A2 l2.length l2) (hc2 : l2.length ≤ c2) (h : impl_PlanCells.f k a0_0 a0_1 l0_2 a1 l2 = some r) :
  Calls Try.prog 45 #[.agg #[.int .i64 a0_0,.int .i64 a0_1,.slice A0_2 l0_2.length c0_2],.int .i64 a1,.slice A2 l2.length c2] w fun e w' => ∃ v0_ : Value,e = .returned (v0_) ∧ Kd.R (Kd.int .i64) 3 w' w.heap.size (fun _ => True) v0_ r ∧ Below w.heap.size w w':=by
 have hu51:=Try.underlying51;have hu76:=Try.underlying76;have HR0_2:=am hr0_2;have HC0_2:=am hc0_2;clear hr0_2 hc0_2;have HR2:=am hr2;have HC2:=am hc2;clear hr2 hc2;have HB:=am (Below.refl w.heap.size w);have H : ((impl_IsPlan.f k a0_0 a0_1 l0_2 a1 l2).bind fun t206 => (if t206 = true then (impl_PlanCells.l0 k a1 (([a1] : List Int)) l2 (l2.length : Int) 0 a0_0 a0_1 l0_2) else (some ([] : List Int)))) = some r:=h;clear h;replace H:=bS.mp H;obtain ⟨t206,A40,H⟩:=H;replace H : (if t206 = true then (impl_PlanCells.l0 k a1 (([a1] : List Int)) l2 (l2.length : Int) 0 a0_0 a0_1 l0_2) else (some ([] : List Int))) = some r:=H;have A4:=am A40;clear A40
 by_cases c5 : t206 = true
 ·subst c5;have H1 : (impl_PlanCells.l0 k a1 (([a1] : List Int)) l2 (l2.length : Int) 0 a0_0 a0_1 l0_2) = some r:=by rw [if_pos rfl] at H;exact H
  clear H;have H:=H1;clear H1;obtain ⟨y207,hy207⟩ : ∃ y_ : List Int,y_ = (([a1] : List Int)):=⟨_,rfl⟩
  replace H : (impl_PlanCells.l0 k a1 y207 l2 (l2.length : Int) 0 a0_0 a0_1 l0_2) = some r:=by first | (rw [hy207];with_reducible exact H) | (have H2_:=(Option.bind_some _ _).symm.trans H;rw [hy207];with_reducible exact H2_) | (have H2_:=(Option.bind_some _ _).symm.trans H;with_reducible exact H2_) | with_reducible exact H | (rw [hy207];exact H) | exact H
  have Ny207:=am hy207;clear hy207;have H':=am H;clear H
  go_enter Try.func45,Try.ntmps45
  go_wp2_with (first | ((with_reducible refine gate_dst (N:=3) rfl ?_);refine box_event ?hg (N:=3) ?hd (cs:=#[.int .i64 a0_0,.int .i64 a0_1,.slice A0_2 l0_2.length c0_2]) (t:=51) ?hr ?_;(case hd => rfl);(case hg => rfl);(case hr => exact qq186);intro gb205 hg w6 hbox hb;have BK205:=am (hbox);have GW205:=am ((qq73 : w.heap.size ≤ gb205));have GE205:=am ((qq73 : w.heap.size ≤ gb205));replace HB:=am (below_step qq117 hb);clear hb hbox hg;obtain ⟨hcz7_0,hcz7_1,hcz7_2,hfz7_0,hfz7_1,hfz7_2⟩:=bcl3 BK205.out) | ((with_reducible refine gate_callee (f:=46) rfl ?_);refine goesL_ (some 13) rfl rfl Try.func46 (by kernel_rfl) rfl #[.agg #[.int .i64 a0_0,.int .i64 a0_1,.slice A0_2 l0_2.length c0_2],.int .i64 a1,.slice A2 l2.length c2] rfl qq101 ?_;(with_reducible refine (impl_IsPlan.calls k a0_0 a0_1 _ _ l0_2 a1 _ _ l2 true _ ?side1 ?side2 ?side3 ?side4 A4.out).mono ?_);(case side1 => exact qq56);(case side2 => exact qq199);(case side3 => exact qq64);(case side4 => exact HC2.out);rintro e w8 ⟨rfl,hb⟩;refine ⟨_,rfl,?_⟩;replace BK205:=am (blk_below (g:=gb205) (o:=.cells #[.int .i64 a0_0,.int .i64 a0_1,.slice A0_2 l0_2.length c0_2] 51 (0,0)) qq137 hb);replace HB:=am (below_step qq91 hb);(try clear hb);(try clear hb2);(try clear hk);(try clear hi)) | ((with_reducible refine gate_dst (N:=16) rfl ?_);refine Kd.R_lit (Kd.int .i64) _ 3 ?hg (N:=16) ?hd (xs:=([a1] : List Int)) (inner:=[.int .i64 a1]) (ok:=fun _ => True) (okp:=fun _ => True) ?hr ?hp (fun _ hk => hk) trivial (Below.refl _ _) (Nat.le_refl _) (by simp) ?_;(case hd => rfl);(case hg => rfl);(case hr => exact qq186);(case hp => exact qq150);intro v208 w9 ho10 hb hg_ hnew_;clear hg_ hnew_;(first | rw [← Ny207.out] at ho10 | (simp only [Int.reduceToNat] at ho10;rw [← Ny207.out] at ho10));have HO209:=am (Kd.R_lower ho10 (below_size qq91));replace BK205:=am (blk_below (g:=gb205) (o:=.cells #[.int .i64 a0_0,.int .i64 a0_1,.slice A0_2 l0_2.length c0_2] 51 (0,0)) qq137 hb);replace HB:=am (below_step qq91 hb);clear hb ho10))
  go_loopg [1,7,19] k (fun kq v1 v7 v19 w' => ∃ (x1_1 : Int) (x7_1 : List Int) (x19_1 : Int),v1 = .int .i64 x1_1 ∧ v19 = .int .i64 x19_1 ∧ Aside0 (impl_PlanCells.l0 kq x1_1 x7_1 l2 (l2.length : Int) x19_1 a0_0 a0_1 l0_2 = some r) ∧ Aside0 (kq ≤ k) ∧ Aside0 (Kd.R (Kd.int .i64) 3 w' w.heap.size (fun _ => True) v7 x7_1) ∧ Aside0 (w'.heap[gb205]? = some (.cells #[.int .i64 a0_0,.int .i64 a0_1,(.slice A0_2 l0_2.length c0_2)] 51 (0,0))) ∧ Aside0 (Below w.heap.size w w'))
  case atStart => exact ⟨(a1),(y207),(0),qq185,qq185,H',⟨Nat.le_refl _⟩,⟨by (with_reducible repeat (first | apply kA | apply kN | apply kD));exact HO209.out⟩,⟨qq137⟩,⟨qq91⟩⟩
  case round =>
   clear H'
   try clear c2
   try clear p2
   try clear c4
   try clear c5
   try clear hcz7_0
   try clear hcz7_1
   try clear hcz7_2
   try clear hfz7_0
   try clear hfz7_1
   try clear hfz7_2
   obtain ⟨x1_1,x7_1,x19_1,rfl,rfl,HA,HK1,HO_7,BK205,HB⟩:=hrel
   cases gk with
   | zero => exact absurd HA.out (by simp [impl_PlanCells.l0])
   | succ k1 =>
    have H:=HA.out;clear HA;simp only [impl_PlanCells.l0] at H
    by_cases c11 : x19_1 < (l2.length : Int)
    ·rw [if_pos c11] at H;have c11b0 : decide (x19_1 < (l2.length : Int)) = true:=decide_eq_true c11;clear c11
     by_cases c12 : 0 ≤ x19_1
     ·rw [if_pos c12] at H;have c12b0 : decide (0 ≤ x19_1) = true:=decide_eq_true c12;clear c12
      by_cases c13 : x19_1 < (l2.length : Int)
      ·rw [if_pos c13] at H;have c13b0 : decide (x19_1 < (l2.length : Int)) = true:=decide_eq_true c13;clear c13;replace H:=bS.mp H;obtain ⟨t212,A140,H⟩:=H;replace H : (if 1 ≤ (t212.length : Int) then ((some (t212.drop 1 : List Int)).bind fun y215 => (if x7_1.length + y215.length < 17592186044416 then (impl_PlanCells.l1 k1 (x7_1 ++ y215) l2 (l2.length : Int) x19_1 ((rd_T76 l2 x19_1).f1) 0 a0_0 a0_1 l0_2 ((rd_T76 l2 x19_1).f0) ((rd_T76 l2 x19_1).f1)) else (none))) else (none)) = some r:=H;have A14:=am A140;clear A140
       by_cases c15 : 1 ≤ (t212.length : Int)
       ·rw [if_pos c15] at H;have c15b0:=eq_true c15;have c15b1 : decide (1 ≤ (t212.length : Int)) = true:=decide_eq_true c15;clear c15;obtain ⟨y215,hy215⟩ : ∃ y_ : List Int,y_ = (t212.drop 1):=⟨_,rfl⟩
        replace H : (if x7_1.length + y215.length < 17592186044416 then (impl_PlanCells.l1 k1 (x7_1 ++ y215) l2 (l2.length : Int) x19_1 ((rd_T76 l2 x19_1).f1) 0 a0_0 a0_1 l0_2 ((rd_T76 l2 x19_1).f0) ((rd_T76 l2 x19_1).f1)) else (none)) = some r:=by first | (rw [hy215];with_reducible exact H) | (have H2_:=(Option.bind_some _ _).symm.trans H;rw [hy215];with_reducible exact H2_) | (have H2_:=(Option.bind_some _ _).symm.trans H;with_reducible exact H2_) | with_reducible exact H | (rw [hy215];exact H) | exact H
        have Ny215:=am hy215;clear hy215
        by_cases c16 : x7_1.length + y215.length < 17592186044416
        ·rw [if_pos c16] at H;have LMc16:=am c16;clear c16;obtain ⟨y219,hy219⟩ : ∃ y_ : List Int,y_ = (x7_1 ++ y215):=⟨_,rfl⟩
         replace H : (impl_PlanCells.l1 k1 y219 l2 (l2.length : Int) x19_1 ((rd_T76 l2 x19_1).f1) 0 a0_0 a0_1 l0_2 ((rd_T76 l2 x19_1).f0) ((rd_T76 l2 x19_1).f1)) = some r:=by first | (rw [hy219];with_reducible exact H) | (have H2_:=(Option.bind_some _ _).symm.trans H;rw [hy219];with_reducible exact H2_) | (have H2_:=(Option.bind_some _ _).symm.trans H;with_reducible exact H2_) | with_reducible exact H | (rw [hy219];exact H) | exact H
         have Ny219:=am hy219;clear hy219;have H':=am H;clear H;have p210 : 0 ≤ (x19_1 : Int):=odt qq183;have q210 : x19_1 < (l2.length : Int):=odt qq183;obtain ⟨ad210,e210,hx210_0,hx210_1⟩:=at_T76 HR2.out x19_1 p210 q210
         cases e210
         replace hx210_0:=(ct HB.out hx210_0 :)
         replace hx210_1:=(ct HB.out hx210_1 :)
         replace p210:=eq_true p210;replace q210:=eq_true q210;go_wp2_with (first | ((with_reducible refine gate_dst (N:=9) rfl ?_);refine box_event ?hg (N:=9) ?hd (cs:=#[.int .i64 0,.int .i64 0]) (t:=76) ?hr ?_;(case hd => rfl);(case hg => rfl);(case hr => exact qq186);intro gb211 hg w17 hbox hb;replace HO_7:=am (Kd.R_below qq177 hb);have BK211:=am (hbox);have GW211:=am ((qq37 : w.heap.size ≤ gb211));have GE211:=am ((qq37 : w.heap.size ≤ gb211));replace HB:=am (below_step qq91 hb);have NB205_211:=am ((by rw [hg];exact Nat.ne_of_lt (blk_lt (g:=gb205) (o:=.cells #[.int .i64 a0_0,.int .i64 a0_1,.slice A0_2 l0_2.length c0_2] 51 (0,0)) qq137) : gb205 ≠ gb211));have NB211_205:=am ((by rw [hg];exact Nat.ne_of_gt (blk_lt (g:=gb205) (o:=.cells #[.int .i64 a0_0,.int .i64 a0_1,.slice A0_2 l0_2.length c0_2] 51 (0,0)) qq137) : gb211 ≠ gb205));replace BK205:=am (blk_below (g:=gb205) (o:=.cells #[.int .i64 a0_0,.int .i64 a0_1,.slice A0_2 l0_2.length c0_2] 51 (0,0)) qq137 hb);clear hb hbox hg;have hnb18:=NB211_205.out;have hnc18:=NB205_211.out;obtain ⟨hcz19_0,hcz19_1,hfz19_0,hfz19_1⟩:=bcl2 BK211.out;obtain ⟨hcz20_0,hcz20_1,hcz20_2,hfz20_0,hfz20_1,hfz20_2⟩:=bcl3 BK205.out) | ((with_reducible refine gate_callee (f:=97) rfl ?_);refine goesL_ (some 28) rfl rfl Try.func97 (by kernel_rfl) rfl #[.agg #[.int .i64 a0_0,.int .i64 a0_1,.slice A0_2 l0_2.length c0_2],.int .i64 x1_1,.int .i64 ((rd_T76 l2 x19_1).f0)] rfl qq101 ?_;(with_reducible refine (impl_WayTo.calls k1 a0_0 a0_1 _ _ l0_2 x1_1 ((rd_T76 l2 x19_1).f0) t212 _ ?side1 ?side2 A14.out).mono ?_);(case side1 => exact Kd.C_below HR0_2.out qq44);(case side2 => exact qq199);rintro e w21 ⟨v213,rfl,ho0,hb⟩;refine ⟨_,rfl,?_⟩;have HO214:=am (Kd.R_lower (Kd.R_new' ho0 (Kd.R_lt qq9)) (below_size qq44));replace HO_7:=am (Kd.R_elder' qq9 (Kd.R_base ho0) hb);replace BK205:=am (blk_below (g:=gb205) (o:=.cells #[.int .i64 a0_0,.int .i64 a0_1,.slice A0_2 l0_2.length c0_2] 51 (0,0)) (by (with_reducible repeat (first | refine dN ?_ _ | refine dD ?_ | refine dA ?_ _));refine blk_far ?_ NB205_211.out _;(with_reducible repeat (first | refine dN ?_ _ | refine dD ?_ | refine dA ?_ _));refine blk_far ?_ NB205_211.out _;(with_reducible repeat (first | refine dN ?_ _ | refine dD ?_ | refine dA ?_ _));exact BK205.out) hb);replace BK211:=am (blk_below (g:=gb211) (o:=.cells #[.int .i64 ((rd_T76 l2 x19_1).f0),.int .i64 ((rd_T76 l2 x19_1).f1)] 76 (0,0)) (by (with_reducible repeat (first | refine dN ?_ _ | refine dD ?_ | refine dA ?_ _));refine blk_put (cs:=#[.int .i64 ((rd_T76 l2 x19_1).f0),.int .i64 0]) ?_ 1 _ rfl;(with_reducible repeat (first | refine dN ?_ _ | refine dD ?_ | refine dA ?_ _));refine blk_put (cs:=#[.int .i64 0,.int .i64 0]) ?_ 0 _ rfl;(with_reducible repeat (first | refine dN ?_ _ | refine dD ?_ | refine dA ?_ _));exact BK211.out) hb);replace HB:=am (below_step qq44 hb);(try clear hb);(try clear hb2);(try clear hk);(try clear hi);(try clear ho0);obtain ⟨Ao23,co23,eo23⟩:=Kd.R_slice HO214.out;subst eo23;have q22 : (1 : Int) ≤ ((t212.length : Int) : Int):=odt qq183;obtain ⟨i022,hi022,_,hsz22,_⟩:=info_parts info3;have hroom22 : t212.length ≤ co23:=(Kd.R_reads' HO214.out).2.1;have hC22 : Kd.C (Kd.int .i64) _ Ao23 t212.length t212:=(Kd.R_reads' HO214.out).2.2;have hcut22:=cut_from (P:=Try.prog) 49 3 .i64 Try.underlying49 hi022 1 hsz22 Ao23 t212.length co23 1 (by omega) q22;have hr22:=Kd.C_drop (m:=(1 : Int).toNat) (c:=co23) hC22 (by omega) hroom22;obtain ⟨A22,hA22⟩ : ∃ A1,A1 = (if co23 = (1 : Int).toNat then Ao23 else (Ao23 : Option Addr).map (·.add ((1 : Int).toNat * 1))):=⟨_,rfl⟩;obtain ⟨c22,hc22⟩ : ∃ c1,c1 = co23 - (1 : Int).toNat:=⟨_,rfl⟩;have hy22 : y215.length = t212.length - (1 : Int).toNat:=(by rw [Ny215.out,List.length_drop] <;> omega);rw [show (t212).drop (1 : Int).toNat = y215 from Ny215.out.symm] at hr22;replace hr22 : Kd.C (Kd.int .i64) _ A22 y215.length y215:=(by rw [hA22];exact hr22);rw [← hy22,← hA22,← hc22] at hcut22;have HR218:=am hr22;have HC218:=am (show y215.length ≤ c22 from by rw [hy22,hc22];exact Nat.sub_le_sub_right hroom22 _);clear hr22 hC22 hroom22 hi022 hsz22 hc22;have KY22:=am hy22;have KA22:=am hA22;clear hy22 hA22;have KL22:=am (show 1 ≤ t212.length from by omega);replace q22:=eq_true q22) | ((with_reducible refine gate_builtin (b:=.append) (xs:=#[.tmp 23,.tmp 29]) rfl ?_);at_builtin;refine Kd.R_append_rows (Kd.int .i64) (w0:=w) w.heap.size rfl (.tmp 23) (.tmp 29) 49 3 (.int .i64 0) 8 rfl Try.underlying49 info3 rfl (by decide) (by omega) u7 x7_1 y215 _ _ _ (fun k_ => some k_ ≠ (.slice Ao23 t212.length co23 : Value).ownBlock) (fun _ => False) rfl rfl ?aO ?aR (fun _ _ h => h) (fun _ h => h.elim) ?aF ?aB ?aS ?aL ?_;(case aR => repeat (first | exact (by repeat (first | (with_reducible exact HR218.out) | (with_reducible refine cA ?_ _) | (with_reducible refine cN ?_ _) | (with_reducible refine cD ?_) | exact HR218.out)) | (with_reducible refine cA ?_ _) | (with_reducible refine cN ?_ _) | (with_reducible refine cD ?_)));(case aB => exact qq31);(case aF => exact (fun k_ hk => Kd.fresh' (Kd.R_lt qq169) k_ hk));(case aO => exact qq105);(case aS => exact qq29);(case aL => have:=LMc16.out;omega);intro v220 w24 ho hb hg hat;rw [← Ny219.out] at ho;replace BK205:=am (blk_grown (g:=gb205) (o:=.cells #[.int .i64 a0_0,.int .i64 a0_1,.slice A0_2 l0_2.length c0_2] 51 (0,0)) qq137 hg (Kd.R_ne HO_7.out BK205.out (by decide)));replace BK211:=am (blk_grown (g:=gb211) (o:=.cells #[.int .i64 ((rd_T76 l2 x19_1).f0),.int .i64 ((rd_T76 l2 x19_1).f1)] 76 (0,0)) qq136 hg (Kd.R_ne HO_7.out BK211.out (by decide)));replace HB:=am (hb);replace HR218:=am ((show Kd.C (Kd.int .i64) w24 A22 y215.length y215 from by rw [Ny215.out,KA22.out];exact Kd.C_drop (m:=1) (c:=co23) ((Kd.R_reads' (Kd.R_after (ok:=(fun _ => True)) qq169 hg hat)).2.2) KL22.out ((Kd.R_reads' (Kd.R_after (ok:=(fun _ => True)) qq169 hg hat)).2.1)));replace HO214:=am (Kd.R_after (ok:=(fun _ => True)) qq169 hg hat);have HO221:=am (ho);clear HO_7;clear ho hb hg hat;obtain ⟨hcz25_0,hcz25_1,hfz25_0,hfz25_1⟩:=bcl2 BK211.out))
         go_loopg [7,33] k1 (fun kq v7 v33 w' => ∃ (x7_2 : List Int) (x33_2 : Int),v33 = .int .i64 x33_2 ∧ Aside0 (impl_PlanCells.l1 kq x7_2 l2 (l2.length : Int) x19_1 ((rd_T76 l2 x19_1).f1) x33_2 a0_0 a0_1 l0_2 ((rd_T76 l2 x19_1).f0) ((rd_T76 l2 x19_1).f1) = some r) ∧ Aside0 (kq ≤ k1) ∧ Aside0 (Kd.R (Kd.int .i64) 3 w' w.heap.size (fun _ => True) v7 x7_2) ∧ Aside0 (w'.heap[gb205]? = some (.cells #[.int .i64 a0_0,.int .i64 a0_1,(.slice A0_2 l0_2.length c0_2)] 51 (0,0))) ∧ Aside0 (w'.heap[gb211]? = some (.cells #[.int .i64 ((rd_T76 l2 x19_1).f0),.int .i64 ((rd_T76 l2 x19_1).f1)] 76 (0,0))) ∧ Aside0 (Below w.heap.size w w'))
         case atStart => exact ⟨(y219),(0),qq185,H',⟨Nat.le_refl _⟩,⟨by (with_reducible repeat (first | apply kA | apply kN | apply kD));exact Kd.R_mono HO221.out (fun _ hk => trivial)⟩,⟨qq137⟩,⟨qq136⟩,⟨qq44⟩⟩
         case round =>
          clear H'
          try clear c1
          try clear c2
          try clear p2
          try clear q2
          try clear hx2
          try clear c4
          try clear c5
          try clear c9
          try clear c11
          try clear c11b0
          try clear c12
          try clear c12b0
          try clear c13
          try clear c13b0
          try clear c15
          try clear c15b0
          try clear c15b1
          try clear c16
          try clear c18
          try clear p21
          try clear q21
          try clear hx21
          try clear c22
          try clear q22
          try clear hcz19_0
          try clear hcz19_1
          try clear hcz20_0
          try clear hcz20_1
          try clear hcz20_2
          try clear hcz25_0
          try clear hcz25_1
          try clear hcz7_0
          try clear hcz7_1
          try clear hcz7_2
          try clear hfz19_0
          try clear hfz19_1
          try clear hfz20_0
          try clear hfz20_1
          try clear hfz20_2
          try clear hfz25_0
          try clear hfz25_1
          try clear hfz7_0
          try clear hfz7_1
          try clear hfz7_2
          try clear hx210_0
          try clear hx210_1
          try clear p2
          try clear p210
          try clear q210
          try clear q22
          obtain ⟨x7_2,x33_2,rfl,HA,HK2,HO_7,BK205,BK211,HB⟩:=hrel
          cases gk with
          | zero => exact absurd HA.out (by simp [impl_PlanCells.l1])
          | succ k2 =>
           have H:=HA.out;clear HA;simp only [impl_PlanCells.l1] at H
           by_cases c26 : x33_2 < ((rd_T76 l2 x19_1).f1)
           ·rw [if_pos c26] at H;have c26b0 : decide (x33_2 < ((rd_T76 l2 x19_1).f1)) = true:=decide_eq_true c26;clear c26
            by_cases c27 : x7_2.length < 17592186044416
            ·rw [if_pos c27] at H;have LMc27:=am c27;clear c27;obtain ⟨y222,hy222⟩ : ∃ y_ : List Int,y_ = (x7_2 ++ [((rd_T76 l2 x19_1).f0)]):=⟨_,rfl⟩
             replace H : (impl_PlanCells.l1 k2 y222 l2 (l2.length : Int) x19_1 ((rd_T76 l2 x19_1).f1) (wrap64 (x33_2 + 1)) a0_0 a0_1 l0_2 ((rd_T76 l2 x19_1).f0) ((rd_T76 l2 x19_1).f1)) = some r:=by first | (rw [hy222];with_reducible exact H) | (have H2_:=(Option.bind_some _ _).symm.trans H;rw [hy222];with_reducible exact H2_) | (have H2_:=(Option.bind_some _ _).symm.trans H;with_reducible exact H2_) | with_reducible exact H | (rw [hy222];exact H) | exact H
             have Ny222:=am hy222;clear hy222;have H':=am H;clear H;have hnb28:=NB211_205.out;have hnc28:=NB205_211.out;obtain ⟨hcz29_0,hcz29_1,hfz29_0,hfz29_1⟩:=bcl2 BK211.out;go_wp2_with (first | ((with_reducible refine gate_builtin (b:=.append) (xs:=#[.tmp 35,.tmp 38]) rfl ?_);at_builtin;refine Kd.R_append (Kd.int .i64) (w0:=w) w.heap.size rfl (.tmp 35) (.tmp 38) 49 3 (.int .i64 0) 8 rfl Try.underlying49 info3 rfl (by decide) (by omega) u7 x7_2 ((rd_T76 l2 x19_1).f0) [.int .i64 ((rd_T76 l2 x19_1).f0)] (fun _ => True) (fun _ => False) rfl rfl ?aP (fun _ hk => hk.elim) ?aF ?aO ?aB ?aS ?aL ?_;(case aP => exact rfl);(case aB => exact qq31);(case aF => exact qq195);(case aO => exact qq152);(case aS => exact qq29);(case aL => have:=LMc27.out;omega);intro v223 w30 ho hb hg hat;rw [← Ny222.out] at ho;replace BK205:=am (blk_grown (g:=gb205) (o:=.cells #[.int .i64 a0_0,.int .i64 a0_1,.slice A0_2 l0_2.length c0_2] 51 (0,0)) qq137 hg (Kd.R_ne HO_7.out BK205.out (by decide)));replace BK211:=am (blk_grown (g:=gb211) (o:=.cells #[.int .i64 ((rd_T76 l2 x19_1).f0),.int .i64 ((rd_T76 l2 x19_1).f1)] 76 (0,0)) qq136 hg (Kd.R_ne HO_7.out BK211.out (by decide)));replace HB:=am (hb);have HO224:=am (ho);clear HO_7;clear ho hb hg hat))
             go_roundg k2
             case measure => have:=HK1.out;have:=HK2.out;omega
             case rel => exact ⟨(y222),(wrap64 (x33_2 + 1)),qq185,H',⟨qq188⟩,⟨by (with_reducible repeat (first | apply kA | apply kN | apply kD));exact HO224.out⟩,⟨qq137⟩,⟨qq136⟩,⟨qq44⟩⟩
            ·rw [if_neg c27] at H;exact absurd H (by simp)
           ·rw [if_neg c26] at H;have c26b0 : decide (x33_2 < ((rd_T76 l2 x19_1).f1)) = false:=decide_eq_false c26;clear c26;have H':=am H;clear H;have hnb31:=NB211_205.out;have hnc31:=NB205_211.out;obtain ⟨hcz32_0,hcz32_1,hfz32_0,hfz32_1⟩:=bcl2 BK211.out;go_wp2
            go_roundg k2
            case measure => have:=HK1.out;have:=HK2.out;omega
            case rel => exact ⟨(((rd_T76 l2 x19_1).f0)),(x7_2),(wrap64 (x19_1 + 1)),qq185,qq185,H',⟨qq188⟩,⟨qq177⟩,⟨qq137⟩,⟨qq44⟩⟩
        ·rw [if_neg c16] at H;exact absurd H (by simp)
       ·rw [if_neg c15] at H;exact absurd H (by simp)
      ·rw [if_neg c13] at H;exact absurd H (by simp)
     ·rw [if_neg c12] at H;exact absurd H (by simp)
    ·rw [if_neg c11] at H;have c11b0 : decide (x19_1 < (l2.length : Int)) = false:=decide_eq_false c11;clear c11;obtain rfl:=Option.some.inj H;go_wp2
     go_ret
     exact ⟨_,qq147,qq177,qq91⟩
 ·replace c5:=Bool.eq_false_iff.mpr c5;subst c5;have H1 : (some ([] : List Int)) = some r:=by rw [if_neg (show ¬ (false = true) by decide)] at H;exact H
  clear H;have H:=H1;clear H1;obtain rfl:=Option.some.inj H
  go_enter Try.func45,Try.ntmps45
  go_wp2_with (first | ((with_reducible refine gate_dst (N:=3) rfl ?_);refine box_event ?hg (N:=3) ?hd (cs:=#[.int .i64 a0_0,.int .i64 a0_1,.slice A0_2 l0_2.length c0_2]) (t:=51) ?hr ?_;(case hd => rfl);(case hg => rfl);(case hr => exact qq186);intro gb205 hg w33 hbox hb;have BK205:=am (hbox);have GW205:=am ((qq73 : w.heap.size ≤ gb205));have GE205:=am ((qq73 : w.heap.size ≤ gb205));replace HB:=am (below_step qq117 hb);clear hb hbox hg;obtain ⟨hcz34_0,hcz34_1,hcz34_2,hfz34_0,hfz34_1,hfz34_2⟩:=bcl3 BK205.out) | ((with_reducible refine gate_callee (f:=46) rfl ?_);refine goesL_ (some 13) rfl rfl Try.func46 (by kernel_rfl) rfl #[.agg #[.int .i64 a0_0,.int .i64 a0_1,.slice A0_2 l0_2.length c0_2],.int .i64 a1,.slice A2 l2.length c2] rfl qq101 ?_;(with_reducible refine (impl_IsPlan.calls k a0_0 a0_1 _ _ l0_2 a1 _ _ l2 false _ ?side1 ?side2 ?side3 ?side4 A4.out).mono ?_);(case side1 => exact qq56);(case side2 => exact qq199);(case side3 => exact qq64);(case side4 => exact HC2.out);rintro e w35 ⟨rfl,hb⟩;refine ⟨_,rfl,?_⟩;replace BK205:=am (blk_below (g:=gb205) (o:=.cells #[.int .i64 a0_0,.int .i64 a0_1,.slice A0_2 l0_2.length c0_2] 51 (0,0)) qq137 hb);replace HB:=am (below_step qq91 hb);(try clear hb);(try clear hb2);(try clear hk);(try clear hi)))
  go_ret
  exact ⟨_,qq147,qq71,qq91⟩

/-! ### impl_PlanDays: function 47 -/
def impl_PlanDays.f (k : Nat) (a0_0 : Int) (a0_1 : Int) (l0_2 : List Int) (a1 : Int) (l2 : List (S76)) : Option (Int) := (impl_PlanCells.f k a0_0 a0_1 l0_2 a1 l2).bind fun t226 => (some (wrap64 ((t226.length : Int) - 1)))
theorem impl_PlanDays.mono : ∀ a0 a1 a2 a3 a4 k, LeO (impl_PlanDays.f k a0 a1 a2 a3 a4) (impl_PlanDays.f (k + 1) a0 a1 a2 a3 a4) := by
 intro a0 a1 a2 a3 a4 k
 unfold impl_PlanDays.f
 repeat' first
   | (with_reducible exact impl_PlanCells.mono _ _ _ _ _ _)
   | (with_reducible exact LeO.refl _)
   | (with_reducible exact LeO.none _)
   | (with_reducible refine LeO.ite ?_ ?_)
   | (with_reducible refine LeO.bind ?_ (fun _ => ?_))
   | exact impl_PlanCells.mono _ _ _ _ _ _
   | exact LeO.none _
   | refine LeO.ite ?_ ?_
   | refine LeO.bind ?_ (fun _ => ?_)
set_option maxHeartbeats 8000000 in
set_option maxRecDepth 100000 in
theorem impl_PlanDays.calls (k : Nat) (a0_0 : Int) (a0_1 : Int) (A0_2 : Option Addr) (c0_2 : Nat) (l0_2 : List Int) (a1 : Int) (A2 : Option Addr) (c2 : Nat) (l2 : List (S76)) (r : Int) (w : World) (hr0_2 : Kd.C (Kd.int .i64) w A0_2 l0_2.length l0_2) (hc0_2 : l0_2.length ≤ c0_2) (hr2 : Kd.C k76 w A2 l2.length l2) (hc2 : l2.length ≤ c2) (h : impl_PlanDays.f k a0_0 a0_1 l0_2 a1 l2 = some r) :
  Calls Try.prog 47 #[.agg #[.int .i64 a0_0,.int .i64 a0_1,.slice A0_2 l0_2.length c0_2],.int .i64 a1,.slice A2 l2.length c2] w fun e w' => e = .returned (.int .i64 r) ∧ Below w.heap.size w w':=by
 have hu51:=Try.underlying51;have HR0_2:=am hr0_2;have HC0_2:=am hc0_2;clear hr0_2 hc0_2;have HR2:=am hr2;have HC2:=am hc2;clear hr2 hc2;have HB:=am (Below.refl w.heap.size w);have H : ((impl_PlanCells.f k a0_0 a0_1 l0_2 a1 l2).bind fun t226 => (some (wrap64 ((t226.length : Int) - 1)))) = some r:=h;clear h;replace H:=bS.mp H;obtain ⟨t226,A40,H⟩:=H;replace H : (some (wrap64 ((t226.length : Int) - 1))) = some r:=H;have A4:=am A40;clear A40;obtain rfl:=Option.some.inj H
 go_enter Try.func47,Try.ntmps47
 go_wp2_with (first | ((with_reducible refine gate_dst (N:=3) rfl ?_);refine box_event ?hg (N:=3) ?hd (cs:=#[.int .i64 a0_0,.int .i64 a0_1,.slice A0_2 l0_2.length c0_2]) (t:=51) ?hr ?_;(case hd => rfl);(case hg => rfl);(case hr => exact qq186);intro gb225 hg w5 hbox hb;have BK225:=am (hbox);have GW225:=am ((qq73 : w.heap.size ≤ gb225));have GE225:=am ((qq73 : w.heap.size ≤ gb225));replace HB:=am (below_step qq117 hb);clear hb hbox hg;obtain ⟨hcz6_0,hcz6_1,hcz6_2,hfz6_0,hfz6_1,hfz6_2⟩:=bcl3 BK225.out) | ((with_reducible refine gate_callee (f:=45) rfl ?_);refine goesL_ (some 10) rfl rfl Try.func45 (by kernel_rfl) rfl #[.agg #[.int .i64 a0_0,.int .i64 a0_1,.slice A0_2 l0_2.length c0_2],.int .i64 a1,.slice A2 l2.length c2] rfl qq101 ?_;(with_reducible refine (impl_PlanCells.calls k a0_0 a0_1 _ _ l0_2 a1 _ _ l2 t226 _ ?side1 ?side2 ?side3 ?side4 A4.out).mono ?_);(case side1 => exact qq56);(case side2 => exact qq199);(case side3 => exact qq64);(case side4 => exact HC2.out);rintro e w7 ⟨v227,rfl,ho0,hb⟩;refine ⟨_,rfl,?_⟩;have HO228:=am (Kd.R_lower ho0 (below_size qq90));replace BK225:=am (blk_below (g:=gb225) (o:=.cells #[.int .i64 a0_0,.int .i64 a0_1,.slice A0_2 l0_2.length c0_2] 51 (0,0)) (by (with_reducible repeat (first | refine dN ?_ _ | refine dD ?_ | refine dA ?_ _));exact BK225.out) hb);replace HB:=am (below_step qq90 hb);(try clear hb);(try clear hb2);(try clear hk);(try clear hi);(try clear ho0);obtain ⟨Ao8,co8,eo8⟩:=Kd.R_slice HO228.out;subst eo8))
 go_ret
 exact ⟨qq147,qq90⟩

/-! ### laws_szIntS: function 102 -/
def laws_szIntS.f (l0 : List Int) (a1 : Int) : Option (Int) := if (wrap64 (a1 - (l0.length : Int))) < 0 then (some (-1)) else (some (wrap64 (a1 - (l0.length : Int))))
set_option maxHeartbeats 8000000 in
set_option maxRecDepth 100000 in
theorem laws_szIntS.calls (A0 : Option Addr) (c0 : Nat) (l0 : List Int) (a1 : Int) (r : Int) (w : World) (hr0 : Kd.C (Kd.int .i64) w A0 l0.length l0) (hc0 : l0.length ≤ c0) (h : laws_szIntS.f l0 a1 = some r) :
  Calls Try.prog 102 #[.slice A0 l0.length c0,.int .i64 a1] w fun e w' => e = .returned (.int .i64 r) ∧ Drawn0 w w':=by
 have HR0:=am hr0;have HC0:=am hc0;clear hr0 hc0;have H : (if (wrap64 (a1 - (l0.length : Int))) < 0 then (some (-1)) else (some (wrap64 (a1 - (l0.length : Int))))) = some r:=h;clear h
 by_cases c3 : (wrap64 (a1 - (l0.length : Int))) < 0
 ·rw [if_pos c3] at H;have c3b0 : decide ((wrap64 (a1 - (l0.length : Int))) < 0) = true:=decide_eq_true c3;clear c3;obtain rfl:=Option.some.inj H
  go_enter Try.func102,Try.ntmps102
  go_wp2
  go_ret
  exact ⟨qq185,qq182⟩
 ·rw [if_neg c3] at H;have c3b0 : decide ((wrap64 (a1 - (l0.length : Int))) < 0) = false:=decide_eq_false c3;clear c3;obtain rfl:=Option.some.inj H
  go_enter Try.func102,Try.ntmps102
  go_wp2
  go_ret
  exact ⟨qq185,qq182⟩

/-! ### laws_szLand: function 53 -/
def laws_szLand.f (a0_0 : Int) (a0_1 : Int) (l0_2 : List Int) (a1 : Int) : Option (Int) := (laws_szIntS.f l0_2 a1).bind fun t230 => (if t230 < 0 then (some (-1)) else (some t230))
set_option maxHeartbeats 8000000 in
set_option maxRecDepth 100000 in
theorem laws_szLand.calls (a0_0 : Int) (a0_1 : Int) (A0_2 : Option Addr) (c0_2 : Nat) (l0_2 : List Int) (a1 : Int) (r : Int) (w : World) (hr0_2 : Kd.C (Kd.int .i64) w A0_2 l0_2.length l0_2) (hc0_2 : l0_2.length ≤ c0_2) (h : laws_szLand.f a0_0 a0_1 l0_2 a1 = some r) :
  Calls Try.prog 53 #[.agg #[.int .i64 a0_0,.int .i64 a0_1,.slice A0_2 l0_2.length c0_2],.int .i64 a1] w fun e w' => e = .returned (.int .i64 r) ∧ Below w.heap.size w w':=by
 have hu81:=Try.underlying81;have HR0_2:=am hr0_2;have HC0_2:=am hc0_2;clear hr0_2 hc0_2;have HB:=am (Below.refl w.heap.size w);have H : ((laws_szIntS.f l0_2 a1).bind fun t230 => (if t230 < 0 then (some (-1)) else (some t230))) = some r:=h;clear h;replace H:=bS.mp H;obtain ⟨t230,A30,H⟩:=H;replace H : (if t230 < 0 then (some (-1)) else (some t230)) = some r:=H;have A3:=am A30;clear A30
 by_cases c4 : t230 < 0
 ·rw [if_pos c4] at H;have c4b0 : decide (t230 < 0) = true:=decide_eq_true c4;clear c4;obtain rfl:=Option.some.inj H
  go_enter Try.func53,Try.ntmps53
  go_wp2_with (first | ((with_reducible refine gate_dst (N:=2) rfl ?_);refine box_event ?hg (N:=2) ?hd (cs:=#[.int .i64 a0_0,.int .i64 a0_1,.slice A0_2 l0_2.length c0_2]) (t:=81) ?hr ?_;(case hd => rfl);(case hg => rfl);(case hr => exact qq186);intro gb229 hg w5 hbox hb;have BK229:=am (hbox);have GW229:=am ((qq73 : w.heap.size ≤ gb229));have GE229:=am ((qq73 : w.heap.size ≤ gb229));replace HB:=am (below_step qq117 hb);clear hb hbox hg;obtain ⟨hcz6_0,hcz6_1,hcz6_2,hfz6_0,hfz6_1,hfz6_2⟩:=bcl3 BK229.out) | ((with_reducible refine gate_callee (f:=102) rfl ?_);refine goesL_ (some 8) rfl rfl Try.func102 (by kernel_rfl) rfl #[.slice A0_2 l0_2.length c0_2,.int .i64 a1] rfl qq101 ?_;(with_reducible refine (laws_szIntS.calls _ _ l0_2 a1 t230 _ ?side1 ?side2 A3.out).mono ?_);(case side1 => exact qq56);(case side2 => exact qq199);rintro e w' ⟨rfl,⟨nd,rfl⟩⟩;refine ⟨_,rfl,?_⟩))
  go_ret
  exact ⟨qq147,qq89⟩
 ·rw [if_neg c4] at H;have c4b0 : decide (t230 < 0) = false:=decide_eq_false c4;clear c4;obtain rfl:=Option.some.inj H
  go_enter Try.func53,Try.ntmps53
  go_wp2_with (first | ((with_reducible refine gate_dst (N:=2) rfl ?_);refine box_event ?hg (N:=2) ?hd (cs:=#[.int .i64 a0_0,.int .i64 a0_1,.slice A0_2 l0_2.length c0_2]) (t:=81) ?hr ?_;(case hd => rfl);(case hg => rfl);(case hr => exact qq186);intro gb229 hg w7 hbox hb;have BK229:=am (hbox);have GW229:=am ((qq73 : w.heap.size ≤ gb229));have GE229:=am ((qq73 : w.heap.size ≤ gb229));replace HB:=am (below_step qq117 hb);clear hb hbox hg;obtain ⟨hcz8_0,hcz8_1,hcz8_2,hfz8_0,hfz8_1,hfz8_2⟩:=bcl3 BK229.out) | ((with_reducible refine gate_callee (f:=102) rfl ?_);refine goesL_ (some 8) rfl rfl Try.func102 (by kernel_rfl) rfl #[.slice A0_2 l0_2.length c0_2,.int .i64 a1] rfl qq101 ?_;(with_reducible refine (laws_szIntS.calls _ _ l0_2 a1 t230 _ ?side1 ?side2 A3.out).mono ?_);(case side1 => exact qq56);(case side2 => exact qq199);rintro e w' ⟨rfl,⟨nd,rfl⟩⟩;refine ⟨_,rfl,?_⟩))
  go_ret
  exact ⟨qq147,qq89⟩

/-! ### laws_szLegS: function 54 -/
def laws_szLegS.f (l0 : List (S130)) (a1 : Int) : Option (Int) := if (wrap64 (a1 - (l0.length : Int))) < 0 then (some (-1)) else (some (wrap64 (a1 - (l0.length : Int))))
set_option maxHeartbeats 8000000 in
set_option maxRecDepth 100000 in
theorem laws_szLegS.calls (A0 : Option Addr) (c0 : Nat) (l0 : List (S130)) (a1 : Int) (r : Int) (w : World) (hr0 : Kd.C k130 w A0 l0.length l0) (hc0 : l0.length ≤ c0) (h : laws_szLegS.f l0 a1 = some r) :
  Calls Try.prog 54 #[.slice A0 l0.length c0,.int .i64 a1] w fun e w' => e = .returned (.int .i64 r) ∧ Drawn0 w w':=by
 have HR0:=am hr0;have HC0:=am hc0;clear hr0 hc0;have H : (if (wrap64 (a1 - (l0.length : Int))) < 0 then (some (-1)) else (some (wrap64 (a1 - (l0.length : Int))))) = some r:=h;clear h
 by_cases c3 : (wrap64 (a1 - (l0.length : Int))) < 0
 ·rw [if_pos c3] at H;have c3b0 : decide ((wrap64 (a1 - (l0.length : Int))) < 0) = true:=decide_eq_true c3;clear c3;obtain rfl:=Option.some.inj H
  go_enter Try.func54,Try.ntmps54
  go_wp2
  go_ret
  exact ⟨qq185,qq182⟩
 ·rw [if_neg c3] at H;have c3b0 : decide ((wrap64 (a1 - (l0.length : Int))) < 0) = false:=decide_eq_false c3;clear c3;obtain rfl:=Option.some.inj H
  go_enter Try.func54,Try.ntmps54
  go_wp2
  go_ret
  exact ⟨qq185,qq182⟩

/-! ### laws_toIntS: function 106 -/
def laws_toIntS.l0 : Nat → List Int → List Int → Int → Option (List Int)
 | 0,_,_,_ => none
 | k + 1,x0,x3,x4 => if x4 < (x0.length : Int) then (if 0 ≤ x4 then (if x4 < (x3.length : Int) then (laws_toIntS.l0 k x0 (x3.set (x4 : Int).toNat (rd x0 x4)) (wrap64 (x4 + 1))) else (none)) else (none)) else (some x3)
def laws_toIntS.f (k : Nat) (l0 : List Int) : Option (List Int) := if 0 ≤ (l0.length : Int) then (if ((l0.length : Int) : Int).toNat ≤ 35184372088832 then (laws_toIntS.l0 k l0 (List.replicate ((l0.length : Int) : Int).toNat 0) 0) else (none)) else (none)
theorem laws_toIntS.mono_l : ∀ k, (∀ y0 y1 y2, LeO (laws_toIntS.l0 k y0 y1 y2) (laws_toIntS.l0 (k + 1) y0 y1 y2))
 | 0 => fun _ _ _ r h => by simp [laws_toIntS.l0] at h
 | k + 1 => by
  have ih0:=laws_toIntS.mono_l k
  ·intro y0 y1 y2
   unfold laws_toIntS.l0
   repeat' first
   | (with_reducible exact ih0 _ _ _)
   | (with_reducible exact LeO.refl _)
   | (with_reducible exact LeO.none _)
   | (with_reducible refine LeO.ite ?_ ?_)
   | (with_reducible refine LeO.bind ?_ (fun _ => ?_))
   | exact ih0 _ _ _
   | exact LeO.none _
   | refine LeO.ite ?_ ?_
   | refine LeO.bind ?_ (fun _ => ?_)
theorem laws_toIntS.mono : ∀ a0 k, LeO (laws_toIntS.f k a0) (laws_toIntS.f (k + 1) a0) := by
 intro a0 k
 have ih0:=laws_toIntS.mono_l k
 unfold laws_toIntS.f
 repeat' first
   | (with_reducible exact ih0 _ _ _)
   | (with_reducible exact LeO.refl _)
   | (with_reducible exact LeO.none _)
   | (with_reducible refine LeO.ite ?_ ?_)
   | (with_reducible refine LeO.bind ?_ (fun _ => ?_))
   | exact ih0 _ _ _
   | exact LeO.none _
   | refine LeO.ite ?_ ?_
   | refine LeO.bind ?_ (fun _ => ?_)
set_option maxHeartbeats 8000000 in
set_option maxRecDepth 100000 in
theorem laws_toIntS.calls (k : Nat) (A0 : Option Addr) (c0 : Nat) (l0 : List Int) (r : List Int) (w : World) (hr0 : Kd.C (Kd.int .i64) w A0 l0.length l0) (hc0 : l0.length ≤ c0) (h : laws_toIntS.f k l0 = some r) :
  Calls Try.prog 106 #[.slice A0 l0.length c0] w fun e w' => ∃ v0_ : Value,e = .returned (v0_) ∧ Kd.R (Kd.int .i64) 3 w' w.heap.size (fun _ => True) v0_ r ∧ Below w.heap.size w w':=by
 have HR0:=am hr0;have HC0:=am hc0;clear hr0 hc0;have HB:=am (Below.refl w.heap.size w);have H : (if 0 ≤ (l0.length : Int) then (if ((l0.length : Int) : Int).toNat ≤ 35184372088832 then (laws_toIntS.l0 k l0 (List.replicate ((l0.length : Int) : Int).toNat 0) 0) else (none)) else (none)) = some r:=h;clear h
 by_cases c2 : 0 ≤ (l0.length : Int)
 ·rw [if_pos c2] at H;have c2b0:=eq_true c2;have c2b1 : decide (0 ≤ (l0.length : Int)) = true:=decide_eq_true c2;clear c2
  by_cases c3 : ((l0.length : Int) : Int).toNat ≤ 35184372088832
  ·rw [if_pos c3] at H;have c3b0:=eq_true c3;have c3b1 : decide (((l0.length : Int) : Int).toNat ≤ 35184372088832) = true:=decide_eq_true c3;clear c3;obtain ⟨y231,hy231⟩ : ∃ y_ : List Int,y_ = (List.replicate ((l0.length : Int) : Int).toNat 0):=⟨_,rfl⟩
   replace H : (laws_toIntS.l0 k l0 y231 0) = some r:=by first | (rw [hy231];with_reducible exact H) | (have H2_:=(Option.bind_some _ _).symm.trans H;rw [hy231];with_reducible exact H2_) | (have H2_:=(Option.bind_some _ _).symm.trans H;with_reducible exact H2_) | with_reducible exact H | (rw [hy231];exact H) | exact H
   have Ny231:=am hy231;clear hy231;have H':=am H;clear H
   go_enter Try.func106,Try.ntmps106
   go_wp2_with (first | ((with_reducible refine gate_dst (N:=7) rfl ?_);refine Kd.R_make (Kd.int .i64) _ 3 rfl (N:=7) rfl 49 _ _ rfl (l0.length : Int) rfl rfl Try.underlying49 (.int .i64 0) 8 info3 rfl (by decide) (by omega) 0 (ok:=fun _ => True) (okp:=fun _ => True) rfl (fun _ hk => hk) trivial (odt qq183) (Nat.le_trans (Nat.mul_le_mul_right _ (odt qq183 : (l0.length : Int).toNat ≤ 35184372088832)) (by omega)) (Below.refl _ _) (Nat.le_refl _) ?_;intro v232 w4 ho5 hb hg_ hnew_;clear hg_ hnew_;(first | rw [← Ny231.out] at ho5 | (simp only [Int.reduceToNat] at ho5;rw [← Ny231.out] at ho5));have HO233:=am (Kd.R_lower ho5 (below_size qq117));replace HB:=am (below_step qq117 hb);clear hb ho5))
   go_loopg [4] k (fun kq v4 w' => ∃ (x3_1 : List Int) (x4_1 : Int),v4 = .int .i64 x4_1 ∧ Aside0 (laws_toIntS.l0 kq l0 x3_1 x4_1 = some r) ∧ Aside0 (kq ≤ k) ∧ Aside0 (Kd.R (Kd.int .i64) 3 w' w.heap.size (fun _ => True) v232 x3_1) ∧ Aside0 (Below w.heap.size w w'))
   case atStart => exact ⟨(y231),(0),qq185,H',⟨Nat.le_refl _⟩,⟨by (with_reducible repeat (first | apply kA | apply kN | apply kD));exact HO233.out⟩,⟨qq117⟩⟩
   case round =>
    clear H'
    try clear c1
    try clear c2
    try clear c2b0
    try clear c2b1
    try clear p2
    try clear c3
    try clear c3b0
    try clear c3b1
    obtain ⟨x3_1,x4_1,rfl,HA,HK1,HO_3,HB⟩:=hrel
    cases gk with
    | zero => exact absurd HA.out (by simp [laws_toIntS.l0])
    | succ k1 =>
     have H:=HA.out;clear HA;simp only [laws_toIntS.l0] at H
     by_cases c6 : x4_1 < (l0.length : Int)
     ·rw [if_pos c6] at H;have c6b0 : decide (x4_1 < (l0.length : Int)) = true:=decide_eq_true c6;clear c6
      by_cases c7 : 0 ≤ x4_1
      ·rw [if_pos c7] at H;have c7b0 : decide (0 ≤ x4_1) = true:=decide_eq_true c7;clear c7
       by_cases c8 : x4_1 < (x3_1.length : Int)
       ·rw [if_pos c8] at H;have c8b0 : decide (x4_1 < (x3_1.length : Int)) = true:=decide_eq_true c8;clear c8;obtain ⟨y235,hy235⟩ : ∃ y_ : List Int,y_ = (x3_1.set (x4_1 : Int).toNat (rd l0 x4_1)):=⟨_,rfl⟩
        replace H : (laws_toIntS.l0 k1 l0 y235 (wrap64 (x4_1 + 1))) = some r:=by first | (rw [hy235];with_reducible exact H) | (have H2_:=(Option.bind_some _ _).symm.trans H;rw [hy235];with_reducible exact H2_) | (have H2_:=(Option.bind_some _ _).symm.trans H;with_reducible exact H2_) | with_reducible exact H | (rw [hy235];exact H) | exact H
        have Ny235:=am hy235;clear hy235;have H':=am H;clear H;have p234 : 0 ≤ (x4_1 : Int):=odt qq183;have q234 : x4_1 < (l0.length : Int):=odt qq183;obtain ⟨ad234,e234,hx234_0⟩:=Kd.at_int HR0.out x4_1 p234 q234
        cases e234
        replace hx234_0:=(ct HB.out hx234_0 :)
        replace p234:=eq_true p234;replace q234:=eq_true q234;have p9 : 0 ≤ (x4_1 : Int):=odt qq183;have q9 : (x4_1 : Int) < ((x3_1.length : Int) : Int):=odt qq183;obtain ⟨go9,co9,eo9,gb9,gl9,cl9,HG9⟩:=Kd.R_form HO_3.out (by omega);(first | cases eo9 | (injection eo9 with ea_ en_ ec_;(first | subst ea_ | (injection ea_ with ea_;subst ea_));subst ec_;clear en_));have GB9:=am gb9;have GG9:=am HG9;clear gb9 gl9 HG9;obtain ⟨hx9_0,hf9_0⟩:=Kd.R_celln 0 HO_3.out (x4_1 : Int) p9 q9;replace p9:=eq_true p9;replace q9:=eq_true q9;have HP10:=Kd.R_putg HO_3.out (x4_1 : Int) (rd l0 x4_1);go_wp2_with (first | ((with_reducible refine gate_store (t:=3) (p:=20) rfl ?_);refine store_event (t:=3) (p:=20) (v:=?vo_w11) (w1:=(wr.setCell ⟨go9,(x4_1 : Int).toNat,none⟩ (.int .i64 (rd l0 x4_1)))) ?hg ?ho ?hn ?hr ?_;(case ho => rfl);(case hg => rfl);(case hn => rfl);(case hr => exact qq186);intro w11 hw;have hg : wr.grownBy w11 (some go9):=(by rw [hw];exact HP10.2);have hp_ : Kd.R (Kd.int .i64) 3 w11 w.heap.size (fun _ => True) (.slice (some ⟨go9,0,none⟩) x3_1.length co9) y235:=(by rw [hw,Ny235.out];exact HP10.1);clear HP10;replace HO_3:=am (hp_);replace HB:=am ((by rw [hw];exact below_set (HB.out) GB9.out : Below w.heap.size w w11));clear hg hw hp_))
        go_roundg k1
        case measure => have:=HK1.out;omega
        case rel => exact ⟨(y235),(wrap64 (x4_1 + 1)),qq185,H',⟨qq198⟩,⟨qq179⟩,⟨qq117⟩⟩
       ·rw [if_neg c8] at H;exact absurd H (by simp)
      ·rw [if_neg c7] at H;exact absurd H (by simp)
     ·rw [if_neg c6] at H;have c6b0 : decide (x4_1 < (l0.length : Int)) = false:=decide_eq_false c6;clear c6;obtain rfl:=Option.some.inj H;go_wp2
      go_ret
      exact ⟨_,qq147,qq179,qq117⟩
  ·rw [if_neg c3] at H;exact absurd H (by simp)
 ·rw [if_neg c2] at H;exact absurd H (by simp)

/-! ### laws_toLand: function 56 -/
def laws_toLand.f (k : Nat) (a0_0 : Int) (a0_1 : Int) (l0_2 : List Int) : Option (Int × Int × List Int) := (laws_toIntS.f k l0_2).bind fun t239 => (some (a0_0, a0_1, t239))
theorem laws_toLand.mono : ∀ a0 a1 a2 k, LeO (laws_toLand.f k a0 a1 a2) (laws_toLand.f (k + 1) a0 a1 a2) := by
 intro a0 a1 a2 k
 unfold laws_toLand.f
 repeat' first
   | (with_reducible exact laws_toIntS.mono _ _)
   | (with_reducible exact LeO.refl _)
   | (with_reducible exact LeO.none _)
   | (with_reducible refine LeO.ite ?_ ?_)
   | (with_reducible refine LeO.bind ?_ (fun _ => ?_))
   | exact laws_toIntS.mono _ _
   | exact LeO.none _
   | refine LeO.ite ?_ ?_
   | refine LeO.bind ?_ (fun _ => ?_)
set_option maxHeartbeats 8000000 in
set_option maxRecDepth 100000 in
theorem laws_toLand.calls (k : Nat) (a0_0 : Int) (a0_1 : Int) (A0_2 : Option Addr) (c0_2 : Nat) (l0_2 : List Int) (r1 : Int) (r2 : Int) (r3 : List Int) (w : World) (hr0_2 : Kd.C (Kd.int .i64) w A0_2 l0_2.length l0_2) (hc0_2 : l0_2.length ≤ c0_2) (h : laws_toLand.f k a0_0 a0_1 l0_2 = some (r1, r2, r3)) :
  Calls Try.prog 56 #[.agg #[.int .i64 a0_0,.int .i64 a0_1,.slice A0_2 l0_2.length c0_2]] w fun e w' => ∃ v2_ : Value,e = .returned (.agg #[.int .i64 r1,.int .i64 r2,v2_]) ∧ Kd.R (Kd.int .i64) 3 w' w.heap.size (fun _ => True) v2_ r3 ∧ Below w.heap.size w w':=by
 have hu81:=Try.underlying81;have hu51:=Try.underlying51;have HR0_2:=am hr0_2;have HC0_2:=am hc0_2;clear hr0_2 hc0_2;have HB:=am (Below.refl w.heap.size w);have H : ((laws_toIntS.f k l0_2).bind fun t239 => (some (a0_0,a0_1,t239))) = some (r1,r2,r3):=h;clear h;replace H:=bS.mp H;obtain ⟨t239,A20,H⟩:=H;replace H : (some (a0_0,a0_1,t239)) = some (r1,r2,r3):=H;have A2:=am A20;clear A20;simp only [Option.some.injEq,Prod.mk.injEq] at H;obtain ⟨rfl,rfl,rfl⟩:=H
 go_enter Try.func56,Try.ntmps56
 go_wp2_with (first | ((with_reducible refine gate_dst (N:=1) rfl ?_);refine box_event ?hg (N:=1) ?hd (cs:=#[.int .i64 a0_0,.int .i64 a0_1,.slice A0_2 l0_2.length c0_2]) (t:=81) ?hr ?_;(case hd => rfl);(case hg => rfl);(case hr => exact qq186);intro gb236 hg w3 hbox hb;have BK236:=am (hbox);have GW236:=am ((qq73 : w.heap.size ≤ gb236));have GE236:=am ((qq73 : w.heap.size ≤ gb236));replace HB:=am (below_step qq117 hb);clear hb hbox hg) | ((with_reducible refine gate_dst (N:=2) rfl ?_);refine box_event ?hg (N:=2) ?hd (cs:=#[.int .i64 0,.int .i64 0,.slice none 0 0]) (t:=51) ?hr ?_;(case hd => rfl);(case hg => rfl);(case hr => exact qq186);intro gb237 hg w4 hbox hb;have BK237:=am (hbox);have GW237:=am ((qq36 : w.heap.size ≤ gb237));have GE237:=am ((qq36 : w.heap.size ≤ gb237));replace HB:=am (below_step qq88 hb);have NB236_237:=am ((qq14 : gb236 ≠ gb237));have NB237_236:=am ((qq18 : gb237 ≠ gb236));replace BK236:=am (blk_below (g:=gb236) (o:=.cells #[.int .i64 a0_0,.int .i64 a0_1,.slice A0_2 l0_2.length c0_2] 81 (0,0)) qq135 hb);clear hb hbox hg) | ((with_reducible refine gate_dst (N:=3) rfl ?_);refine box_event ?hg (N:=3) ?hd (cs:=#[.int .i64 0,.int .i64 0,.slice none 0 0]) (t:=51) ?hr ?_;(case hd => rfl);(case hg => rfl);(case hr => exact qq186);intro gb238 hg w5 hbox hb;have BK238:=am (hbox);have GW238:=am ((qq25 : w.heap.size ≤ gb238));have GE238:=am ((qq25 : w.heap.size ≤ gb238));replace HB:=am (below_step qq43 hb);have NB236_238:=am ((qq14 : gb236 ≠ gb238));have NB238_236:=am ((qq18 : gb238 ≠ gb236));replace BK236:=am (blk_below (g:=gb236) (o:=.cells #[.int .i64 a0_0,.int .i64 a0_1,.slice A0_2 l0_2.length c0_2] 81 (0,0)) qq135 hb);have NB237_238:=am ((by rw [hg];exact Nat.ne_of_lt (blk_lt (g:=gb237) (o:=.cells #[.int .i64 0,.int .i64 0,.slice none 0 0] 51 (0,0)) qq134) : gb237 ≠ gb238));have NB238_237:=am ((by rw [hg];exact Nat.ne_of_gt (blk_lt (g:=gb237) (o:=.cells #[.int .i64 0,.int .i64 0,.slice none 0 0] 51 (0,0)) qq134) : gb238 ≠ gb237));replace BK237:=am (blk_below (g:=gb237) (o:=.cells #[.int .i64 0,.int .i64 0,.slice none 0 0] 51 (0,0)) qq134 hb);clear hb hbox hg;have hnb6:=NB236_237.out;have hnc6:=NB237_236.out;have hnb7:=NB236_238.out;have hnc7:=NB238_236.out;obtain ⟨hcz8_0,hcz8_1,hcz8_2,hfz8_0,hfz8_1,hfz8_2⟩:=bcl3 BK236.out;have hnb9:=NB238_237.out;have hnc9:=NB237_238.out;obtain ⟨hcz10_0,hcz10_1,hcz10_2,hfz10_0,hfz10_1,hfz10_2⟩:=bcl3 BK238.out) | ((with_reducible refine gate_callee (f:=106) rfl ?_);refine goesL_ (some 12) rfl rfl Try.func106 (by kernel_rfl) rfl #[.slice A0_2 l0_2.length c0_2] rfl qq101 ?_;(with_reducible refine (laws_toIntS.calls k _ _ l0_2 t239 _ ?side1 ?side2 A2.out).mono ?_);(case side1 => exact Kd.C_below HR0_2.out qq26);(case side2 => exact qq199);rintro e w11 ⟨v240,rfl,ho0,hb⟩;refine ⟨_,rfl,?_⟩;have HO241:=am (Kd.R_lower ho0 (below_size qq26));replace BK236:=am (blk_below (g:=gb236) (o:=.cells #[.int .i64 a0_0,.int .i64 a0_1,.slice A0_2 l0_2.length c0_2] 81 (0,0)) (by (with_reducible repeat (first | refine dN ?_ _ | refine dD ?_ | refine dA ?_ _));refine blk_far ?_ NB236_238.out _;(with_reducible repeat (first | refine dN ?_ _ | refine dD ?_ | refine dA ?_ _));refine blk_far ?_ NB236_238.out _;(with_reducible repeat (first | refine dN ?_ _ | refine dD ?_ | refine dA ?_ _));exact BK236.out) hb);replace BK237:=am (blk_below (g:=gb237) (o:=.cells #[.int .i64 0,.int .i64 0,.slice none 0 0] 51 (0,0)) (by (with_reducible repeat (first | refine dN ?_ _ | refine dD ?_ | refine dA ?_ _));refine blk_far ?_ NB237_238.out _;(with_reducible repeat (first | refine dN ?_ _ | refine dD ?_ | refine dA ?_ _));refine blk_far ?_ NB237_238.out _;(with_reducible repeat (first | refine dN ?_ _ | refine dD ?_ | refine dA ?_ _));exact BK237.out) hb);replace BK238:=am (blk_below (g:=gb238) (o:=.cells #[.int .i64 a0_0,.int .i64 a0_1,.slice none 0 0] 51 (0,0)) (by (with_reducible repeat (first | refine dN ?_ _ | refine dD ?_ | refine dA ?_ _));refine blk_put (cs:=#[.int .i64 a0_0,.int .i64 0,.slice none 0 0]) ?_ 1 _ rfl;(with_reducible repeat (first | refine dN ?_ _ | refine dD ?_ | refine dA ?_ _));refine blk_put (cs:=#[.int .i64 0,.int .i64 0,.slice none 0 0]) ?_ 0 _ rfl;(with_reducible repeat (first | refine dN ?_ _ | refine dD ?_ | refine dA ?_ _));exact BK238.out) hb);replace HB:=am (below_step qq26 hb);(try clear hb);(try clear hb2);(try clear hk);(try clear hi);(try clear ho0);obtain ⟨Ao12,co12,eo12⟩:=Kd.R_slice HO241.out;subst eo12;obtain ⟨hcz13_0,hcz13_1,hcz13_2,hfz13_0,hfz13_1,hfz13_2⟩:=bcl3 BK238.out;obtain ⟨hcz14_0,hcz14_1,hcz14_2,hfz14_0,hfz14_1,hfz14_2⟩:=bcl3 BK237.out))
 refine bodyPost_ret (results_cell_row rfl _ _ gb237 51 #[.int .i64 a0_0,.int .i64 a0_1,.slice Ao12 t239.length co12] (0,0) _ rfl (by (with_reducible repeat (first | refine dN ?_ _ | refine dD ?_ | refine dA ?_ _));refine blk_put (cs:=#[.int .i64 a0_0,.int .i64 a0_1,.slice none 0 0]) ?_ 2 _ rfl;(with_reducible repeat (first | refine dN ?_ _ | refine dD ?_ | refine dA ?_ _));refine blk_put (cs:=#[.int .i64 a0_0,.int .i64 0,.slice none 0 0]) ?_ 1 _ rfl;(with_reducible repeat (first | refine dN ?_ _ | refine dD ?_ | refine dA ?_ _));refine blk_put (cs:=#[.int .i64 0,.int .i64 0,.slice none 0 0]) ?_ 0 _ rfl;(with_reducible repeat (first | refine dN ?_ _ | refine dD ?_ | refine dA ?_ _));refine blk_far ?_ NB237_238.out _;(with_reducible repeat (first | refine dN ?_ _ | refine dD ?_ | refine dA ?_ _));exact BK237.out) Try.underlying51 rfl (by kernel_rfl)) rfl ?_;exact ⟨_,qq147,by (with_reducible repeat (first | apply kA | apply kN | apply kD));exact Kd.R_mono (Kd.R_far (p:=⟨gb237,2,none⟩) (Kd.R_far (p:=⟨gb237,1,none⟩) (Kd.R_far (p:=⟨gb237,0,none⟩) (Kd.R_far (p:=⟨gb238,2,none⟩) (Kd.R_types (Kd.R_types HO241.out BK238.out (by decide)) BK237.out (by decide)) (fun _ hk => hk.1.2) (.slice Ao12 t239.length co12)) (fun _ hk => hk.2) (.int .i64 a0_0)) (fun _ hk => hk.2) (.int .i64 a0_1)) (fun _ hk => hk.2) (.slice Ao12 t239.length co12)) (fun _ hk => trivial),qq26⟩

/-! ### laws_toLeg: function 107 -/
def laws_toLeg.f (a0_0 : Int) (a0_1 : Int) : Option (Int × Int) := some (a0_0, a0_1)
set_option maxHeartbeats 8000000 in
set_option maxRecDepth 100000 in
theorem laws_toLeg.calls (a0_0 : Int) (a0_1 : Int) (r1 : Int) (r2 : Int) (w : World) (h : laws_toLeg.f a0_0 a0_1 = some (r1, r2)) :
  Calls Try.prog 107 #[.agg #[.int .i64 a0_0,.int .i64 a0_1]] w fun e w' => e = .returned (.agg #[.int .i64 r1,.int .i64 r2]) ∧ Below w.heap.size w w':=by
 have hu130:=Try.underlying130;have hu76:=Try.underlying76;have HB:=am (Below.refl w.heap.size w);have H : (some (a0_0,a0_1)) = some (r1,r2):=h;clear h;simp only [Option.some.injEq,Prod.mk.injEq] at H;obtain ⟨rfl,rfl⟩:=H
 go_enter Try.func107,Try.ntmps107
 go_wp2_with (first | ((with_reducible refine gate_dst (N:=1) rfl ?_);refine box_event ?hg (N:=1) ?hd (cs:=#[.int .i64 a0_0,.int .i64 a0_1]) (t:=130) ?hr ?_;(case hd => rfl);(case hg => rfl);(case hr => exact qq186);intro gb242 hg w2 hbox hb;have BK242:=am (hbox);have GW242:=am ((qq73 : w.heap.size ≤ gb242));have GE242:=am ((qq73 : w.heap.size ≤ gb242));replace HB:=am (below_step qq117 hb);clear hb hbox hg) | ((with_reducible refine gate_dst (N:=2) rfl ?_);refine box_event ?hg (N:=2) ?hd (cs:=#[.int .i64 0,.int .i64 0]) (t:=76) ?hr ?_;(case hd => rfl);(case hg => rfl);(case hr => exact qq186);intro gb243 hg w3 hbox hb;have BK243:=am (hbox);have GW243:=am ((qq35 : w.heap.size ≤ gb243));have GE243:=am ((qq35 : w.heap.size ≤ gb243));replace HB:=am (below_step qq87 hb);have NB242_243:=am ((qq20 : gb242 ≠ gb243));have NB243_242:=am ((qq21 : gb243 ≠ gb242));replace BK242:=am (blk_below (g:=gb242) (o:=.cells #[.int .i64 a0_0,.int .i64 a0_1] 130 (0,0)) qq133 hb);clear hb hbox hg) | ((with_reducible refine gate_dst (N:=3) rfl ?_);refine box_event ?hg (N:=3) ?hd (cs:=#[.int .i64 0,.int .i64 0]) (t:=76) ?hr ?_;(case hd => rfl);(case hg => rfl);(case hr => exact qq186);intro gb244 hg w4 hbox hb;have BK244:=am (hbox);have GW244:=am ((qq24 : w.heap.size ≤ gb244));have GE244:=am ((qq24 : w.heap.size ≤ gb244));replace HB:=am (below_step qq42 hb);have NB242_244:=am ((qq20 : gb242 ≠ gb244));have NB244_242:=am ((qq21 : gb244 ≠ gb242));replace BK242:=am (blk_below (g:=gb242) (o:=.cells #[.int .i64 a0_0,.int .i64 a0_1] 130 (0,0)) qq133 hb);have NB243_244:=am ((by rw [hg];exact Nat.ne_of_lt (blk_lt (g:=gb243) (o:=.cells #[.int .i64 0,.int .i64 0] 76 (0,0)) qq132) : gb243 ≠ gb244));have NB244_243:=am ((by rw [hg];exact Nat.ne_of_gt (blk_lt (g:=gb243) (o:=.cells #[.int .i64 0,.int .i64 0] 76 (0,0)) qq132) : gb244 ≠ gb243));replace BK243:=am (blk_below (g:=gb243) (o:=.cells #[.int .i64 0,.int .i64 0] 76 (0,0)) qq132 hb);clear hb hbox hg;have hnb5:=NB242_243.out;have hnc5:=NB243_242.out;have hnb6:=NB242_244.out;have hnc6:=NB244_242.out;obtain ⟨hcz7_0,hcz7_1,hfz7_0,hfz7_1⟩:=bcl2 BK242.out;have hnb8:=NB244_243.out;have hnc8:=NB243_244.out;obtain ⟨hcz9_0,hcz9_1,hfz9_0,hfz9_1⟩:=bcl2 BK244.out;obtain ⟨hcz10_0,hcz10_1,hfz10_0,hfz10_1⟩:=bcl2 BK243.out))
 refine bodyPost_ret (results_cell_row rfl _ _ gb243 76 #[.int .i64 a0_0,.int .i64 a0_1] (0,0) _ rfl (by (with_reducible repeat (first | refine dN ?_ _ | refine dD ?_ | refine dA ?_ _));refine blk_put (cs:=#[.int .i64 a0_0,.int .i64 0]) ?_ 1 _ rfl;(with_reducible repeat (first | refine dN ?_ _ | refine dD ?_ | refine dA ?_ _));refine blk_put (cs:=#[.int .i64 0,.int .i64 0]) ?_ 0 _ rfl;(with_reducible repeat (first | refine dN ?_ _ | refine dD ?_ | refine dA ?_ _));refine blk_far ?_ NB243_244.out _;(with_reducible repeat (first | refine dN ?_ _ | refine dD ?_ | refine dA ?_ _));refine blk_far ?_ NB243_244.out _;(with_reducible repeat (first | refine dN ?_ _ | refine dD ?_ | refine dA ?_ _));exact BK243.out) Try.underlying76 rfl (by kernel_rfl)) rfl ?_;exact ⟨qq147,by repeat (first | (with_reducible first | exact HB.out | apply bA | apply bN | apply bD | refine below_set ?_ GE242.out | refine below_set ?_ GE243.out | refine below_set ?_ GE244.out) | exact HB.out)⟩

/-! ### laws_toLegS: function 57 -/
def laws_toLegS.l0 : Nat → List (S130) → List (S76) → Int → Option ((List (S76)))
 | 0,_,_,_ => none
 | k + 1,x0,x3,x4 => if x4 < (x0.length : Int) then (if 0 ≤ x4 then ((laws_toLeg.f ((rd_T130 x0 x4).f0) ((rd_T130 x0 x4).f1)).bind fun bt249 => (if x4 < (x3.length : Int) then (laws_toLegS.l0 k x0 (x3.set (x4 : Int).toNat (⟨bt249.1,bt249.2⟩ : S76)) (wrap64 (x4 + 1))) else (none))) else (none)) else (some x3)
def laws_toLegS.f (k : Nat) (l0 : List (S130)) : Option ((List (S76))) := if 0 ≤ (l0.length : Int) then (if ((l0.length : Int) : Int).toNat ≤ 17592186044416 then (laws_toLegS.l0 k l0 (List.replicate ((l0.length : Int) : Int).toNat z76) 0) else (none)) else (none)
theorem laws_toLegS.mono_l : ∀ k, (∀ y0 y1 y2, LeO (laws_toLegS.l0 k y0 y1 y2) (laws_toLegS.l0 (k + 1) y0 y1 y2))
 | 0 => fun _ _ _ r h => by simp [laws_toLegS.l0] at h
 | k + 1 => by
  have ih0:=laws_toLegS.mono_l k
  ·intro y0 y1 y2
   unfold laws_toLegS.l0
   repeat' first
   | (with_reducible exact ih0 _ _ _)
   | (with_reducible exact LeO.refl _)
   | (with_reducible exact LeO.none _)
   | (with_reducible refine LeO.ite ?_ ?_)
   | (with_reducible refine LeO.bind ?_ (fun _ => ?_))
   | exact ih0 _ _ _
   | exact LeO.none _
   | refine LeO.ite ?_ ?_
   | refine LeO.bind ?_ (fun _ => ?_)
theorem laws_toLegS.mono : ∀ a0 k, LeO (laws_toLegS.f k a0) (laws_toLegS.f (k + 1) a0) := by
 intro a0 k
 have ih0:=laws_toLegS.mono_l k
 unfold laws_toLegS.f
 repeat' first
   | (with_reducible exact ih0 _ _ _)
   | (with_reducible exact LeO.refl _)
   | (with_reducible exact LeO.none _)
   | (with_reducible refine LeO.ite ?_ ?_)
   | (with_reducible refine LeO.bind ?_ (fun _ => ?_))
   | exact ih0 _ _ _
   | exact LeO.none _
   | refine LeO.ite ?_ ?_
   | refine LeO.bind ?_ (fun _ => ?_)
set_option maxHeartbeats 8000000 in
set_option maxRecDepth 100000 in
theorem laws_toLegS.calls (k : Nat) (A0 : Option Addr) (c0 : Nat) (l0 : List (S130)) (r : List (S76)) (w : World) (hr0 : Kd.C k130 w A0 l0.length l0) (hc0 : l0.length ≤ c0) (h : laws_toLegS.f k l0 = some r) :
  Calls Try.prog 57 #[.slice A0 l0.length c0] w fun e w' => ∃ v0_ : Value,e = .returned (v0_) ∧ Kd.R k76 76 w' w.heap.size (fun _ => True) v0_ r ∧ Below w.heap.size w w':=by
 have hu130:=Try.underlying130;have hu76:=Try.underlying76;have HR0:=am hr0;have HC0:=am hc0;clear hr0 hc0;have HB:=am (Below.refl w.heap.size w);have H : (if 0 ≤ (l0.length : Int) then (if ((l0.length : Int) : Int).toNat ≤ 17592186044416 then (laws_toLegS.l0 k l0 (List.replicate ((l0.length : Int) : Int).toNat z76) 0) else (none)) else (none)) = some r:=h;clear h
 by_cases c2 : 0 ≤ (l0.length : Int)
 ·rw [if_pos c2] at H;have c2b0:=eq_true c2;have c2b1 : decide (0 ≤ (l0.length : Int)) = true:=decide_eq_true c2;clear c2
  by_cases c3 : ((l0.length : Int) : Int).toNat ≤ 17592186044416
  ·rw [if_pos c3] at H;have c3b0:=eq_true c3;have c3b1 : decide (((l0.length : Int) : Int).toNat ≤ 17592186044416) = true:=decide_eq_true c3;clear c3;obtain ⟨y245,hy245⟩ : ∃ y_ : List (S76),y_ = (List.replicate ((l0.length : Int) : Int).toNat z76):=⟨_,rfl⟩
   replace H : (laws_toLegS.l0 k l0 y245 0) = some r:=by first | (rw [hy245];with_reducible exact H) | (have H2_:=(Option.bind_some _ _).symm.trans H;rw [hy245];with_reducible exact H2_) | (have H2_:=(Option.bind_some _ _).symm.trans H;with_reducible exact H2_) | with_reducible exact H | (rw [hy245];exact H) | exact H
   have Ny245:=am hy245;clear hy245;have H':=am H;clear H
   go_enter Try.func57,Try.ntmps57
   go_wp2_with (first | ((with_reducible refine gate_dst (N:=7) rfl ?_);refine Kd.R_make k76 _ 76 rfl (N:=7) rfl 68 _ _ rfl (l0.length : Int) rfl rfl Try.underlying68 (.agg #[(.int .i64 0),(.int .i64 0)]) 16 info76 rfl (by decide) (by omega) z76 (ok:=fun _ => True) (okp:=fun _ => True) (k76_mkM _ _ _ z76 ) (fun _ hk => hk) trivial (odt qq183) (Nat.le_trans (Nat.mul_le_mul_right _ (odt qq183 : (l0.length : Int).toNat ≤ 17592186044416)) (by omega)) (Below.refl _ _) (Nat.le_refl _) ?_;intro v246 w4 ho5 hb hg_ hnew_;clear hg_ hnew_;(first | rw [← Ny245.out] at ho5 | (simp only [Int.reduceToNat] at ho5;rw [← Ny245.out] at ho5));have HO247:=am (Kd.R_lower ho5 (below_size qq117));replace HB:=am (below_step qq117 hb);clear hb ho5))
   go_loopg [4] k (fun kq v4 w' => ∃ (x3_1 : List (S76)) (x4_1 : Int),v4 = .int .i64 x4_1 ∧ Aside0 (laws_toLegS.l0 kq l0 x3_1 x4_1 = some r) ∧ Aside0 (kq ≤ k) ∧ Aside0 (Kd.R k76 76 w' w.heap.size (fun _ => True) v246 x3_1) ∧ Aside0 (Below w.heap.size w w'))
   case atStart => exact ⟨(y245),(0),qq185,H',⟨Nat.le_refl _⟩,⟨by (with_reducible repeat (first | apply kA | apply kN | apply kD));exact HO247.out⟩,⟨qq117⟩⟩
   case round =>
    clear H'
    try clear c2
    try clear c2b0
    try clear c2b1
    try clear p2
    try clear c3
    try clear c3b0
    try clear c3b1
    try clear c5
    obtain ⟨x3_1,x4_1,rfl,HA,HK1,HO_3,HB⟩:=hrel
    cases gk with
    | zero => exact absurd HA.out (by simp [laws_toLegS.l0])
    | succ k1 =>
     have H:=HA.out;clear HA;simp only [laws_toLegS.l0] at H
     by_cases c6 : x4_1 < (l0.length : Int)
     ·rw [if_pos c6] at H;have c6b0 : decide (x4_1 < (l0.length : Int)) = true:=decide_eq_true c6;clear c6
      by_cases c7 : 0 ≤ x4_1
      ·rw [if_pos c7] at H;have c7b0 : decide (0 ≤ x4_1) = true:=decide_eq_true c7;clear c7;replace H:=bS.mp H;obtain ⟨⟨t249,t250⟩,A80,H⟩:=H;replace H : (if x4_1 < (x3_1.length : Int) then (laws_toLegS.l0 k1 l0 (x3_1.set (x4_1 : Int).toNat (⟨t249,t250⟩ : S76)) (wrap64 (x4_1 + 1))) else (none)) = some r:=H;have A8:=am A80;clear A80
       by_cases c9 : x4_1 < (x3_1.length : Int)
       ·rw [if_pos c9] at H;have c9b0 : decide (x4_1 < (x3_1.length : Int)) = true:=decide_eq_true c9;clear c9;obtain ⟨y251,hy251⟩ : ∃ y_ : List (S76),y_ = (x3_1.set (x4_1 : Int).toNat (⟨t249,t250⟩ : S76)):=⟨_,rfl⟩
        replace H : (laws_toLegS.l0 k1 l0 y251 (wrap64 (x4_1 + 1))) = some r:=by first | (rw [hy251];with_reducible exact H) | (have H2_:=(Option.bind_some _ _).symm.trans H;rw [hy251];with_reducible exact H2_) | (have H2_:=(Option.bind_some _ _).symm.trans H;with_reducible exact H2_) | with_reducible exact H | (rw [hy251];exact H) | exact H
        have Ny251:=am hy251;clear hy251;have H':=am H;clear H;have p248 : 0 ≤ (x4_1 : Int):=odt qq183;have q248 : x4_1 < (l0.length : Int):=odt qq183;obtain ⟨ad248,e248,hx248_0,hx248_1⟩:=at_T130 HR0.out x4_1 p248 q248
        cases e248
        replace hx248_0:=(ct HB.out hx248_0 :)
        replace hx248_1:=(ct HB.out hx248_1 :)
        replace p248:=eq_true p248;replace q248:=eq_true q248;go_wp2_with (first | ((with_reducible refine gate_callee (f:=107) rfl ?_);refine goesL_ (some 20) rfl rfl Try.func107 (by kernel_rfl) rfl #[.agg #[.int .i64 ((rd_T130 l0 x4_1).f0),.int .i64 ((rd_T130 l0 x4_1).f1)]] rfl qq101 ?_;(with_reducible refine (laws_toLeg.calls ((rd_T130 l0 x4_1).f0) ((rd_T130 l0 x4_1).f1) t249 t250 _ A8.out).mono ?_);rintro e w11 ⟨rfl,hb⟩;refine ⟨_,rfl,?_⟩;replace HO_3:=am (Kd.R_below qq179 hb);replace HB:=am (below_step qq117 hb);(try clear hb);(try clear hb2);(try clear hk);(try clear hi);have p10 : 0 ≤ (x4_1 : Int):=odt qq183;have q10 : (x4_1 : Int) < ((x3_1.length : Int) : Int):=odt qq183;obtain ⟨go10,co10,eo10,gb10,gl10,cl10,HG10⟩:=Kd.R_form HO_3.out (by omega);(first | cases eo10 | (injection eo10 with ea_ en_ ec_;(first | subst ea_ | (injection ea_ with ea_;subst ea_));subst ec_;clear en_));have GB10:=am gb10;have GG10:=am HG10;clear gb10 gl10 HG10;obtain ⟨ce10,hcl10,hM10,hcc10,hfr10⟩:=Kd.R_elem HO_3.out z76 (x4_1 : Int) p10 q10;obtain rfl:=k76_openM hM10;have hx10_0 : w11.cell? ⟨go10,(x4_1 : Int).toNat * 2,none⟩ = some (.int .i64 ((rd_T76 x3_1 x4_1).f0)):=hcc10 0 _ rfl;have hx10_1 : w11.cell? ⟨go10,(x4_1 : Int).toNat * 2 + 1,none⟩ = some (.int .i64 ((rd_T76 x3_1 x4_1).f1)):=hcc10 1 _ rfl;have hf10_0 : w11.frozen? ⟨go10,(x4_1 : Int).toNat * 2,none⟩ = false:=hfr10 0;have hf10_1 : w11.frozen? ⟨go10,(x4_1 : Int).toNat * 2 + 1,none⟩ = false:=hfr10 1;clear hcl10 hcc10 hfr10;(try clear hM10);replace p10:=eq_true p10;replace q10:=eq_true q10;have HX12:=am (show Kd.R k76 76 w11 w.heap.size (fun _ => True) (.slice (some ⟨go10,0,none⟩) x3_1.length co10) x3_1 from qq179);obtain ⟨ce12,hcl12,hM12,hcc12,hfr12⟩:=Kd.R_elem HX12.out z76 (x4_1 : Int) (odt qq183) qq30;obtain rfl:=k76_openM hM12;have HP12:=Kd.R_seg HX12.out (x4_1 : Int) (odt qq183) qq30 (seg:=[.int .i64 t249,.int .i64 t250]) (j:=0) hcl12 hcc12 (show 2 ≤ 2 from by decide) (x':=(⟨t249,t250⟩ : S76)) (k76_mkM _ _ _ (⟨t249,t250⟩ : S76) ) (fun _ hk => hk);have hx12_0:=hcc12 0 _ rfl;(try simp only [show (k76).sz = 2 from rfl,Nat.mul_one,Nat.add_zero] at hx12_0);have hf12_0:=hfr12 0;(try simp only [show (k76).sz = 2 from rfl,Nat.mul_one,Nat.add_zero] at hf12_0);have hx12_1:=hcc12 1 _ rfl;(try simp only [show (k76).sz = 2 from rfl,Nat.mul_one,Nat.add_zero] at hx12_1);have hf12_1:=hfr12 1;(try simp only [show (k76).sz = 2 from rfl,Nat.mul_one,Nat.add_zero] at hf12_1);clear hcl12 hcc12 hfr12 hM12) | ((with_reducible refine gate_store (t:=76) (p:=21) rfl ?_);refine store_event (t:=76) (p:=21) (v:=?vo_w13) (w1:=((w11.setCell ⟨go10,(x4_1 : Int).toNat * 2,none⟩ (.int .i64 t249)).setCell ⟨go10,(x4_1 : Int).toNat * 2 + 1,none⟩ (.int .i64 t250))) ?hg ?ho ?hn ?hr ?_;(case ho => rfl);(case hg => rfl);(case hn => rfl);(case hr => exact qq186);intro w13 hw;have hg : w11.grownBy w13 (some go10):=(by rw [hw];exact HP12.2);have hp_ : Kd.R k76 76 w13 w.heap.size (fun _ => True) (.slice (some ⟨go10,0,none⟩) x3_1.length co10) y251:=(by rw [hw,Ny251.out];exact HP12.1);clear HP12;replace HO_3:=am (hp_);replace HB:=am ((by rw [hw];exact below_set (below_set (HB.out) GB10.out) GB10.out : Below w.heap.size w w13));clear hg hw hp_))
        go_roundg k1
        case measure => have:=HK1.out;omega
        case rel => exact ⟨(y251),(wrap64 (x4_1 + 1)),qq185,H',⟨qq198⟩,⟨qq179⟩,⟨qq117⟩⟩
       ·rw [if_neg c9] at H;exact absurd H (by simp)
      ·rw [if_neg c7] at H;exact absurd H (by simp)
     ·rw [if_neg c6] at H;have c6b0 : decide (x4_1 < (l0.length : Int)) = false:=decide_eq_false c6;clear c6;obtain rfl:=Option.some.inj H;go_wp2
      go_ret
      exact ⟨_,qq147,qq179,qq117⟩
  ·rw [if_neg c3] at H;exact absurd H (by simp)
 ·rw [if_neg c2] at H;exact absurd H (by simp)

end Go.Proofs.Ytcbkknpmeknppaa.PFnExactPlanDays
