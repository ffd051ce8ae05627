/- Contracts of functions that the law FnExactPlanCells reaches, for its row: lines that the kit's printer wrote for this claim, set shorter by a program of this session (own.py), and what fell in Lean proved anew. Lean checks them. -/
import Derived.Test.YtcbkknpmeknppaaSFnExactPlanCellsx0
import Derived.Test.YtcbkknpmeknppaaSFnExactPlanCellsx4
namespace Go.Proofs.Ytcbkknpmeknppaa.PFnExactPlanCells
open Go.RowKit Go.Proofs.YtcbkknpmeknppaaW.PrintWords Go.Proofs.YtcbkknpmeknppaaW.PrintLast Go.Proofs.YtcbkknpmeknppaaW.PrintMore
attribute [local go_sem] max2_int min2_int max_two min_two max_three min_three max_four min_four   -- for this text's walks alone
set_option linter.unusedVariables false
set_option linter.unusedSimpArgs false

/-! ### impl_PlanCells: function 45 -/
mutual
def impl_PlanCells.l0 : Nat → Int → List Int → List (S76) → Int → Int → Int → Int → List Int → Option (List Int)
 | 0,_,_,_,_,_,_,_,_ => none
 | k + 1,x1,x7,x17,x18,x19,x206000,x206001,x206002 => if x19 < x18 then (if 0 ≤ x19 then (if x19 < (x17.length : Int) then ((impl_WayTo.f k x206000 x206001 x206002 x1 ((rd_T76 x17 x19).f0)).bind fun t212 => (if 1 ≤ (t212.length : Int) then ((some (t212.drop 1 : List Int)).bind fun y215 => (if x7.length + y215.length < 17592186044416 then (impl_PlanCells.l1 k (x7 ++ y215) x17 x18 x19 ((rd_T76 x17 x19).f1) 0 x206000 x206001 x206002 ((rd_T76 x17 x19).f0) ((rd_T76 x17 x19).f1)) else (none))) else (none))) else (none)) else (none)) else (some x7)
def impl_PlanCells.l1 : Nat → List Int → List (S76) → Int → Int → Int → Int → Int → Int → List Int → Int → Int → Option (List Int)
 | 0,_,_,_,_,_,_,_,_,_,_,_ => none
 | k + 1,x7,x17,x18,x19,x32,x33,x206000,x206001,x206002,x212000,x212001 => if x33 < x32 then (if x7.length < 17592186044416 then (impl_PlanCells.l1 k (x7 ++ [x212000]) x17 x18 x19 x32 (wrap64 (x33 + 1)) x206000 x206001 x206002 x212000 x212001) else (none)) else (impl_PlanCells.l0 k x212000 x7 x17 x18 (wrap64 (x19 + 1)) x206000 x206001 x206002)
end
def impl_PlanCells.f (k : Nat) (a0_0 : Int) (a0_1 : Int) (l0_2 : List Int) (a1 : Int) (l2 : List (S76)) : Option (List Int) := (impl_IsPlan.f k a0_0 a0_1 l0_2 a1 l2).bind fun t206 => (if t206 = true then (impl_PlanCells.l0 k a1 (([a1] : List Int)) l2 (l2.length : Int) 0 a0_0 a0_1 l0_2) else (some ([] : List Int)))
theorem impl_PlanCells.mono_l : ∀ k, (∀ y0 y1 y2 y3 y4 y5 y6 y7, LeO (impl_PlanCells.l0 k y0 y1 y2 y3 y4 y5 y6 y7) (impl_PlanCells.l0 (k + 1) y0 y1 y2 y3 y4 y5 y6 y7)) ∧ (∀ y0 y1 y2 y3 y4 y5 y6 y7 y8 y9 y10, LeO (impl_PlanCells.l1 k y0 y1 y2 y3 y4 y5 y6 y7 y8 y9 y10) (impl_PlanCells.l1 (k + 1) y0 y1 y2 y3 y4 y5 y6 y7 y8 y9 y10))
 | 0 => ⟨fun _ _ _ _ _ _ _ _ r h => by simp [impl_PlanCells.l0] at h,fun _ _ _ _ _ _ _ _ _ _ _ r h => by simp [impl_PlanCells.l1] at h⟩
 | k + 1 => by
  obtain ⟨ih0,ih1⟩:=impl_PlanCells.mono_l k
  refine ⟨?_,?_⟩
  ·intro y0 y1 y2 y3 y4 y5 y6 y7
   unfold impl_PlanCells.l0
   repeat' first
   | (with_reducible exact ih0 _ _ _ _ _ _ _ _)
   | (with_reducible exact ih1 _ _ _ _ _ _ _ _ _ _ _)
   | (with_reducible exact impl_IsPlan.mono _ _ _ _ _ _)
   | (with_reducible exact impl_WayTo.mono _ _ _ _ _ _)
   | (with_reducible exact LeO.refl _)
   | (with_reducible exact LeO.none _)
   | (with_reducible refine LeO.ite ?_ ?_)
   | (with_reducible refine LeO.bind ?_ (fun _ => ?_))
   | exact ih0 _ _ _ _ _ _ _ _
   | exact ih1 _ _ _ _ _ _ _ _ _ _ _
   | exact impl_IsPlan.mono _ _ _ _ _ _
   | exact impl_WayTo.mono _ _ _ _ _ _
   | exact LeO.none _
   | refine LeO.ite ?_ ?_
   | refine LeO.bind ?_ (fun _ => ?_)
  ·intro y0 y1 y2 y3 y4 y5 y6 y7 y8 y9 y10
   unfold impl_PlanCells.l1
   repeat' first
   | (with_reducible exact ih0 _ _ _ _ _ _ _ _)
   | (with_reducible exact ih1 _ _ _ _ _ _ _ _ _ _ _)
   | (with_reducible exact impl_IsPlan.mono _ _ _ _ _ _)
   | (with_reducible exact impl_WayTo.mono _ _ _ _ _ _)
   | (with_reducible exact LeO.refl _)
   | (with_reducible exact LeO.none _)
   | (with_reducible refine LeO.ite ?_ ?_)
   | (with_reducible refine LeO.bind ?_ (fun _ => ?_))
   | exact ih0 _ _ _ _ _ _ _ _
   | exact ih1 _ _ _ _ _ _ _ _ _ _ _
   | exact impl_IsPlan.mono _ _ _ _ _ _
   | exact impl_WayTo.mono _ _ _ _ _ _
   | exact LeO.none _
   | refine LeO.ite ?_ ?_
   | refine LeO.bind ?_ (fun _ => ?_)
theorem impl_PlanCells.mono : ∀ a0 a1 a2 a3 a4 k, LeO (impl_PlanCells.f k a0 a1 a2 a3 a4) (impl_PlanCells.f (k + 1) a0 a1 a2 a3 a4) := by
 intro a0 a1 a2 a3 a4 k
 obtain ⟨ih0,ih1⟩:=impl_PlanCells.mono_l k
 unfold impl_PlanCells.f
 repeat' first
   | (with_reducible exact ih0 _ _ _ _ _ _ _ _)
   | (with_reducible exact ih1 _ _ _ _ _ _ _ _ _ _ _)
   | (with_reducible exact impl_IsPlan.mono _ _ _ _ _ _)
   | (with_reducible exact impl_WayTo.mono _ _ _ _ _ _)
   | (with_reducible exact LeO.refl _)
   | (with_reducible exact LeO.none _)
   | (with_reducible refine LeO.ite ?_ ?_)
   | (with_reducible refine LeO.bind ?_ (fun _ => ?_))
   | exact ih0 _ _ _ _ _ _ _ _
   | exact ih1 _ _ _ _ _ _ _ _ _ _ _
   | exact impl_IsPlan.mono _ _ _ _ _ _
   | exact impl_WayTo.mono _ _ _ _ _ _
   | exact LeO.none _
   | refine LeO.ite ?_ ?_
   | refine LeO.bind ?_ (fun _ => ?_)
set_option maxHeartbeats 8000000 in
set_option maxRecDepth 100000 in
theorem impl_PlanCells.calls (k : Nat) (a0_0 : Int) (a0_1 : Int) (A0_2 : Option Addr) (c0_2 : Nat) (l0_2 : List Int) (a1 : Int) (A2 : Option Addr) (c2 : Nat) (l2 : List (S76)) (r : List Int) (w : World) (hr0_2 : Kd.C (Kd.int .i64) w A0_2 l0_2.length l0_2) (hc0_2 : l0_2.length ≤ c0_2) (hr2 : Kd.C k76 w A2 l2.length l2) (hc2 : l2.length ≤ c2) (h : impl_PlanCells.f k a0_0 a0_1 l0_2 a1 l2 = some r) :
  Calls Try.prog 45 #[.agg #[.int .i64 a0_0,.int .i64 a0_1,.slice A0_2 l0_2.length c0_2],.int .i64 a1,.slice A2 l2.length c2] w fun e w' => ∃ v0_ : Value,e = .returned (v0_) ∧ Kd.R (Kd.int .i64) 3 w' w.heap.size (fun _ => True) v0_ r ∧ Below w.heap.size w w':=by
 have hu51:=Try.underlying51;have hu76:=Try.underlying76;have HR0_2:=am hr0_2;have HC0_2:=am hc0_2;clear hr0_2 hc0_2;have HR2:=am hr2;have HC2:=am hc2;clear hr2 hc2;have HB:=am (Below.refl w.heap.size w);have H : ((impl_IsPlan.f k a0_0 a0_1 l0_2 a1 l2).bind fun t206 => (if t206 = true then (impl_PlanCells.l0 k a1 (([a1] : List Int)) l2 (l2.length : Int) 0 a0_0 a0_1 l0_2) else (some ([] : List Int)))) = some r:=h;clear h;replace H:=bS.mp H;obtain ⟨t206,A40,H⟩:=H;replace H : (if t206 = true then (impl_PlanCells.l0 k a1 (([a1] : List Int)) l2 (l2.length : Int) 0 a0_0 a0_1 l0_2) else (some ([] : List Int))) = some r:=H;have A4:=am A40;clear A40
 by_cases c5 : t206 = true
 ·subst c5;have H1 : (impl_PlanCells.l0 k a1 (([a1] : List Int)) l2 (l2.length : Int) 0 a0_0 a0_1 l0_2) = some r:=by rw [if_pos rfl] at H;exact H
  clear H;have H:=H1;clear H1;obtain ⟨y207,hy207⟩ : ∃ y_ : List Int,y_ = (([a1] : List Int)):=⟨_,rfl⟩
  replace H : (impl_PlanCells.l0 k a1 y207 l2 (l2.length : Int) 0 a0_0 a0_1 l0_2) = some r:=by first | (rw [hy207];with_reducible exact H) | (have H2_:=(Option.bind_some _ _).symm.trans H;rw [hy207];with_reducible exact H2_) | (have H2_:=(Option.bind_some _ _).symm.trans H;with_reducible exact H2_) | with_reducible exact H | (rw [hy207];exact H) | exact H
  have Ny207:=am hy207;clear hy207;have H':=am H;clear H
  go_enter Try.func45,Try.ntmps45
  go_wp2_with (first | ((with_reducible refine gate_dst (N:=3) rfl ?_);refine box_event ?hg (N:=3) ?hd (cs:=#[.int .i64 a0_0,.int .i64 a0_1,.slice A0_2 l0_2.length c0_2]) (t:=51) ?hr ?_;(case hd => rfl);(case hg => rfl);(case hr => exact qq219);intro gb205 hg w6 hbox hb;have BK205:=am (hbox);have GW205:=am ((qq85 : w.heap.size ≤ gb205));have GE205:=am ((qq85 : w.heap.size ≤ gb205));replace HB:=am (below_step qq140 hb);clear hb hbox hg;obtain ⟨hcz7_0,hcz7_1,hcz7_2,hfz7_0,hfz7_1,hfz7_2⟩:=bcl3 BK205.out) | ((with_reducible refine gate_callee (f:=46) rfl ?_);refine goesL_ (some 13) rfl rfl Try.func46 (by kernel_rfl) rfl #[.agg #[.int .i64 a0_0,.int .i64 a0_1,.slice A0_2 l0_2.length c0_2],.int .i64 a1,.slice A2 l2.length c2] rfl qq112 ?_;(with_reducible refine (impl_IsPlan.calls k a0_0 a0_1 _ _ l0_2 a1 _ _ l2 true _ ?side1 ?side2 ?side3 ?side4 A4.out).mono ?_);(case side1 => exact qq61);(case side2 => exact qq239);(case side3 => exact qq75);(case side4 => exact HC2.out);rintro e w8 ⟨rfl,hb⟩;refine ⟨_,rfl,?_⟩;replace BK205:=am (blk_below (g:=gb205) (o:=.cells #[.int .i64 a0_0,.int .i64 a0_1,.slice A0_2 l0_2.length c0_2] 51 (0,0)) qq160 hb);replace HB:=am (below_step qq102 hb);(try clear hb);(try clear hb2);(try clear hk);(try clear hi)) | ((with_reducible refine gate_dst (N:=16) rfl ?_);refine Kd.R_lit (Kd.int .i64) _ 3 ?hg (N:=16) ?hd (xs:=([a1] : List Int)) (inner:=[.int .i64 a1]) (ok:=fun _ => True) (okp:=fun _ => True) ?hr ?hp (fun _ hk => hk) trivial (Below.refl _ _) (Nat.le_refl _) (by simp) ?_;(case hd => rfl);(case hg => rfl);(case hr => exact qq219);(case hp => exact qq173);intro v208 w9 ho10 hb hg_ hnew_;clear hg_ hnew_;(first | rw [← Ny207.out] at ho10 | (simp only [Int.reduceToNat] at ho10;rw [← Ny207.out] at ho10));have HO209:=am (Kd.R_lower ho10 (below_size qq102));replace BK205:=am (blk_below (g:=gb205) (o:=.cells #[.int .i64 a0_0,.int .i64 a0_1,.slice A0_2 l0_2.length c0_2] 51 (0,0)) qq160 hb);replace HB:=am (below_step qq102 hb);clear hb ho10))
  go_loopg [1,7,19] k (fun kq v1 v7 v19 w' => ∃ (x1_1 : Int) (x7_1 : List Int) (x19_1 : Int),v1 = .int .i64 x1_1 ∧ v19 = .int .i64 x19_1 ∧ Aside0 (impl_PlanCells.l0 kq x1_1 x7_1 l2 (l2.length : Int) x19_1 a0_0 a0_1 l0_2 = some r) ∧ Aside0 (kq ≤ k) ∧ Aside0 (Kd.R (Kd.int .i64) 3 w' w.heap.size (fun _ => True) v7 x7_1) ∧ Aside0 (w'.heap[gb205]? = some (.cells #[.int .i64 a0_0,.int .i64 a0_1,(.slice A0_2 l0_2.length c0_2)] 51 (0,0))) ∧ Aside0 (Below w.heap.size w w'))
  case atStart => exact ⟨(a1),(y207),(0),qq217,qq217,H',⟨Nat.le_refl _⟩,⟨by (with_reducible repeat (first | apply kA | apply kN | apply kD));exact HO209.out⟩,⟨qq160⟩,⟨qq102⟩⟩
  case round =>
   clear H'
   try clear c2
   try clear p2
   try clear c4
   try clear c5
   try clear hcz7_0
   try clear hcz7_1
   try clear hcz7_2
   try clear hfz7_0
   try clear hfz7_1
   try clear hfz7_2
   obtain ⟨x1_1,x7_1,x19_1,rfl,rfl,HA,HK1,HO_7,BK205,HB⟩:=hrel
   cases gk with
   | zero => exact absurd HA.out (by simp [impl_PlanCells.l0])
   | succ k1 =>
    have H:=HA.out;clear HA;simp only [impl_PlanCells.l0] at H
    by_cases c11 : x19_1 < (l2.length : Int)
    ·rw [if_pos c11] at H;have c11b0 : decide (x19_1 < (l2.length : Int)) = true:=decide_eq_true c11;clear c11
     by_cases c12 : 0 ≤ x19_1
     ·rw [if_pos c12] at H;have c12b0 : decide (0 ≤ x19_1) = true:=decide_eq_true c12;clear c12
      by_cases c13 : x19_1 < (l2.length : Int)
      ·rw [if_pos c13] at H;have c13b0 : decide (x19_1 < (l2.length : Int)) = true:=decide_eq_true c13;clear c13;replace H:=bS.mp H;obtain ⟨t212,A140,H⟩:=H;replace H : (if 1 ≤ (t212.length : Int) then ((some (t212.drop 1 : List Int)).bind fun y215 => (if x7_1.length + y215.length < 17592186044416 then (impl_PlanCells.l1 k1 (x7_1 ++ y215) l2 (l2.length : Int) x19_1 ((rd_T76 l2 x19_1).f1) 0 a0_0 a0_1 l0_2 ((rd_T76 l2 x19_1).f0) ((rd_T76 l2 x19_1).f1)) else (none))) else (none)) = some r:=H;have A14:=am A140;clear A140
       by_cases c15 : 1 ≤ (t212.length : Int)
       ·rw [if_pos c15] at H;have c15b0:=eq_true c15;have c15b1 : decide (1 ≤ (t212.length : Int)) = true:=decide_eq_true c15;clear c15;obtain ⟨y215,hy215⟩ : ∃ y_ : List Int,y_ = (t212.drop 1):=⟨_,rfl⟩
        replace H : (if x7_1.length + y215.length < 17592186044416 then (impl_PlanCells.l1 k1 (x7_1 ++ y215) l2 (l2.length : Int) x19_1 ((rd_T76 l2 x19_1).f1) 0 a0_0 a0_1 l0_2 ((rd_T76 l2 x19_1).f0) ((rd_T76 l2 x19_1).f1)) else (none)) = some r:=by first | (rw [hy215];with_reducible exact H) | (have H2_:=(Option.bind_some _ _).symm.trans H;rw [hy215];with_reducible exact H2_) | (have H2_:=(Option.bind_some _ _).symm.trans H;with_reducible exact H2_) | with_reducible exact H | (rw [hy215];exact H) | exact H
        have Ny215:=am hy215;clear hy215
        by_cases c16 : x7_1.length + y215.length < 17592186044416
        ·rw [if_pos c16] at H;have LMc16:=am c16;clear c16;obtain ⟨y219,hy219⟩ : ∃ y_ : List Int,y_ = (x7_1 ++ y215):=⟨_,rfl⟩
         replace H : (impl_PlanCells.l1 k1 y219 l2 (l2.length : Int) x19_1 ((rd_T76 l2 x19_1).f1) 0 a0_0 a0_1 l0_2 ((rd_T76 l2 x19_1).f0) ((rd_T76 l2 x19_1).f1)) = some r:=by first | (rw [hy219];with_reducible exact H) | (have H2_:=(Option.bind_some _ _).symm.trans H;rw [hy219];with_reducible exact H2_) | (have H2_:=(Option.bind_some _ _).symm.trans H;with_reducible exact H2_) | with_reducible exact H | (rw [hy219];exact H) | exact H
         have Ny219:=am hy219;clear hy219;have H':=am H;clear H;have p210 : 0 ≤ (x19_1 : Int):=odt qq215;have q210 : x19_1 < (l2.length : Int):=odt qq215;obtain ⟨ad210,e210,hx210_0,hx210_1⟩:=at_T76 HR2.out x19_1 p210 q210
         cases e210
         replace hx210_0:=(ct HB.out hx210_0 :)
         replace hx210_1:=(ct HB.out hx210_1 :)
         replace p210:=eq_true p210;replace q210:=eq_true q210;go_wp2_with (first | ((with_reducible refine gate_dst (N:=9) rfl ?_);refine box_event ?hg (N:=9) ?hd (cs:=#[.int .i64 0,.int .i64 0]) (t:=76) ?hr ?_;(case hd => rfl);(case hg => rfl);(case hr => exact qq219);intro gb211 hg w17 hbox hb;replace HO_7:=am (Kd.R_below qq207 hb);have BK211:=am (hbox);have GW211:=am ((qq42 : w.heap.size ≤ gb211));have GE211:=am ((qq42 : w.heap.size ≤ gb211));replace HB:=am (below_step qq102 hb);have NB205_211:=am ((by rw [hg];exact Nat.ne_of_lt (blk_lt (g:=gb205) (o:=.cells #[.int .i64 a0_0,.int .i64 a0_1,.slice A0_2 l0_2.length c0_2] 51 (0,0)) qq160) : gb205 ≠ gb211));have NB211_205:=am ((by rw [hg];exact Nat.ne_of_gt (blk_lt (g:=gb205) (o:=.cells #[.int .i64 a0_0,.int .i64 a0_1,.slice A0_2 l0_2.length c0_2] 51 (0,0)) qq160) : gb211 ≠ gb205));replace BK205:=am (blk_below (g:=gb205) (o:=.cells #[.int .i64 a0_0,.int .i64 a0_1,.slice A0_2 l0_2.length c0_2] 51 (0,0)) qq160 hb);clear hb hbox hg;have hnb18:=NB211_205.out;have hnc18:=NB205_211.out;obtain ⟨hcz19_0,hcz19_1,hfz19_0,hfz19_1⟩:=bcl2 BK211.out;obtain ⟨hcz20_0,hcz20_1,hcz20_2,hfz20_0,hfz20_1,hfz20_2⟩:=bcl3 BK205.out) | ((with_reducible refine gate_callee (f:=97) rfl ?_);refine goesL_ (some 28) rfl rfl Try.func97 (by kernel_rfl) rfl #[.agg #[.int .i64 a0_0,.int .i64 a0_1,.slice A0_2 l0_2.length c0_2],.int .i64 x1_1,.int .i64 ((rd_T76 l2 x19_1).f0)] rfl qq112 ?_;(with_reducible refine (impl_WayTo.calls k1 a0_0 a0_1 _ _ l0_2 x1_1 ((rd_T76 l2 x19_1).f0) t212 _ ?side1 ?side2 A14.out).mono ?_);(case side1 => exact Kd.C_below HR0_2.out qq49);(case side2 => exact qq239);rintro e w21 ⟨v213,rfl,ho0,hb⟩;refine ⟨_,rfl,?_⟩;have HO214:=am (Kd.R_lower (Kd.R_new' ho0 (Kd.R_lt qq10)) (below_size qq49));replace HO_7:=am (Kd.R_elder' qq10 (Kd.R_base ho0) hb);replace BK205:=am (blk_below (g:=gb205) (o:=.cells #[.int .i64 a0_0,.int .i64 a0_1,.slice A0_2 l0_2.length c0_2] 51 (0,0)) (by (with_reducible repeat (first | refine dN ?_ _ | refine dD ?_ | refine dA ?_ _));refine blk_far ?_ NB205_211.out _;(with_reducible repeat (first | refine dN ?_ _ | refine dD ?_ | refine dA ?_ _));refine blk_far ?_ NB205_211.out _;(with_reducible repeat (first | refine dN ?_ _ | refine dD ?_ | refine dA ?_ _));exact BK205.out) hb);replace BK211:=am (blk_below (g:=gb211) (o:=.cells #[.int .i64 ((rd_T76 l2 x19_1).f0),.int .i64 ((rd_T76 l2 x19_1).f1)] 76 (0,0)) (by (with_reducible repeat (first | refine dN ?_ _ | refine dD ?_ | refine dA ?_ _));refine blk_put (cs:=#[.int .i64 ((rd_T76 l2 x19_1).f0),.int .i64 0]) ?_ 1 _ rfl;(with_reducible repeat (first | refine dN ?_ _ | refine dD ?_ | refine dA ?_ _));refine blk_put (cs:=#[.int .i64 0,.int .i64 0]) ?_ 0 _ rfl;(with_reducible repeat (first | refine dN ?_ _ | refine dD ?_ | refine dA ?_ _));exact BK211.out) hb);replace HB:=am (below_step qq49 hb);(try clear hb);(try clear hb2);(try clear hk);(try clear hi);(try clear ho0);obtain ⟨Ao23,co23,eo23⟩:=Kd.R_slice HO214.out;subst eo23;have q22 : (1 : Int) ≤ ((t212.length : Int) : Int):=odt qq215;obtain ⟨i022,hi022,_,hsz22,_⟩:=info_parts info3;have hroom22 : t212.length ≤ co23:=(Kd.R_reads' HO214.out).2.1;have hC22 : Kd.C (Kd.int .i64) _ Ao23 t212.length t212:=(Kd.R_reads' HO214.out).2.2;have hcut22:=cut_from (P:=Try.prog) 49 3 .i64 Try.underlying49 hi022 1 hsz22 Ao23 t212.length co23 1 (by omega) q22;have hr22:=Kd.C_drop (m:=(1 : Int).toNat) (c:=co23) hC22 (by omega) hroom22;obtain ⟨A22,hA22⟩ : ∃ A1,A1 = (if co23 = (1 : Int).toNat then Ao23 else (Ao23 : Option Addr).map (·.add ((1 : Int).toNat * 1))):=⟨_,rfl⟩;obtain ⟨c22,hc22⟩ : ∃ c1,c1 = co23 - (1 : Int).toNat:=⟨_,rfl⟩;have hy22 : y215.length = t212.length - (1 : Int).toNat:=(by rw [Ny215.out,List.length_drop] <;> omega);rw [show (t212).drop (1 : Int).toNat = y215 from Ny215.out.symm] at hr22;replace hr22 : Kd.C (Kd.int .i64) _ A22 y215.length y215:=(by rw [hA22];exact hr22);rw [← hy22,← hA22,← hc22] at hcut22;have HR218:=am hr22;have HC218:=am (show y215.length ≤ c22 from by rw [hy22,hc22];exact Nat.sub_le_sub_right hroom22 _);clear hr22 hC22 hroom22 hi022 hsz22 hc22;have KY22:=am hy22;have KA22:=am hA22;clear hy22 hA22;have KL22:=am (show 1 ≤ t212.length from by omega);replace q22:=eq_true q22) | ((with_reducible refine gate_builtin (b:=.append) (xs:=#[.tmp 23,.tmp 29]) rfl ?_);at_builtin;refine Kd.R_append_rows (Kd.int .i64) (w0:=w) w.heap.size rfl (.tmp 23) (.tmp 29) 49 3 (.int .i64 0) 8 rfl Try.underlying49 info3 rfl (by decide) (by omega) u7 x7_1 y215 _ _ _ (fun k_ => some k_ ≠ (.slice Ao23 t212.length co23 : Value).ownBlock) (fun _ => False) rfl rfl ?aO ?aR (fun _ _ h => h) (fun _ h => h.elim) ?aF ?aB ?aS ?aL ?_;(case aR => repeat (first | exact (by repeat (first | (with_reducible exact HR218.out) | (with_reducible refine cA ?_ _) | (with_reducible refine cN ?_ _) | (with_reducible refine cD ?_) | exact HR218.out)) | (with_reducible refine cA ?_ _) | (with_reducible refine cN ?_ _) | (with_reducible refine cD ?_)));(case aB => exact qq35);(case aF => exact (fun k_ hk => Kd.fresh' (Kd.R_lt qq198) k_ hk));(case aO => exact qq120);(case aS => exact qq31);(case aL => have:=LMc16.out;omega);intro v220 w24 ho hb hg hat;rw [← Ny219.out] at ho;replace BK205:=am (blk_grown (g:=gb205) (o:=.cells #[.int .i64 a0_0,.int .i64 a0_1,.slice A0_2 l0_2.length c0_2] 51 (0,0)) qq160 hg (Kd.R_ne HO_7.out BK205.out (by decide)));replace BK211:=am (blk_grown (g:=gb211) (o:=.cells #[.int .i64 ((rd_T76 l2 x19_1).f0),.int .i64 ((rd_T76 l2 x19_1).f1)] 76 (0,0)) qq159 hg (Kd.R_ne HO_7.out BK211.out (by decide)));replace HB:=am (hb);replace HR218:=am ((show Kd.C (Kd.int .i64) w24 A22 y215.length y215 from by rw [Ny215.out,KA22.out];exact Kd.C_drop (m:=1) (c:=co23) ((Kd.R_reads' (Kd.R_after (ok:=(fun _ => True)) qq198 hg hat)).2.2) KL22.out ((Kd.R_reads' (Kd.R_after (ok:=(fun _ => True)) qq198 hg hat)).2.1)));replace HO214:=am (Kd.R_after (ok:=(fun _ => True)) qq198 hg hat);have HO221:=am (ho);clear HO_7;clear ho hb hg hat;obtain ⟨hcz25_0,hcz25_1,hfz25_0,hfz25_1⟩:=bcl2 BK211.out))
         go_loopg [7,33] k1 (fun kq v7 v33 w' => ∃ (x7_2 : List Int) (x33_2 : Int),v33 = .int .i64 x33_2 ∧ Aside0 (impl_PlanCells.l1 kq x7_2 l2 (l2.length : Int) x19_1 ((rd_T76 l2 x19_1).f1) x33_2 a0_0 a0_1 l0_2 ((rd_T76 l2 x19_1).f0) ((rd_T76 l2 x19_1).f1) = some r) ∧ Aside0 (kq ≤ k1) ∧ Aside0 (Kd.R (Kd.int .i64) 3 w' w.heap.size (fun _ => True) v7 x7_2) ∧ Aside0 (w'.heap[gb205]? = some (.cells #[.int .i64 a0_0,.int .i64 a0_1,(.slice A0_2 l0_2.length c0_2)] 51 (0,0))) ∧ Aside0 (w'.heap[gb211]? = some (.cells #[.int .i64 ((rd_T76 l2 x19_1).f0),.int .i64 ((rd_T76 l2 x19_1).f1)] 76 (0,0))) ∧ Aside0 (Below w.heap.size w w'))
         case atStart => exact ⟨(y219),(0),qq217,H',⟨Nat.le_refl _⟩,⟨by (with_reducible repeat (first | apply kA | apply kN | apply kD));exact Kd.R_mono HO221.out (fun _ hk => trivial)⟩,⟨qq160⟩,⟨qq159⟩,⟨qq49⟩⟩
         case round =>
          clear H'
          try clear c1
          try clear c2
          try clear p2
          try clear q2
          try clear hx2
          try clear c4
          try clear c5
          try clear c9
          try clear c11
          try clear c11b0
          try clear c12
          try clear c12b0
          try clear c13
          try clear c13b0
          try clear c15
          try clear c15b0
          try clear c15b1
          try clear c16
          try clear c18
          try clear p21
          try clear q21
          try clear hx21
          try clear c22
          try clear q22
          try clear hcz19_0
          try clear hcz19_1
          try clear hcz20_0
          try clear hcz20_1
          try clear hcz20_2
          try clear hcz25_0
          try clear hcz25_1
          try clear hcz7_0
          try clear hcz7_1
          try clear hcz7_2
          try clear hfz19_0
          try clear hfz19_1
          try clear hfz20_0
          try clear hfz20_1
          try clear hfz20_2
          try clear hfz25_0
          try clear hfz25_1
          try clear hfz7_0
          try clear hfz7_1
          try clear hfz7_2
          try clear hx210_0
          try clear hx210_1
          try clear p2
          try clear p210
          try clear q210
          try clear q22
          obtain ⟨x7_2,x33_2,rfl,HA,HK2,HO_7,BK205,BK211,HB⟩:=hrel
          cases gk with
          | zero => exact absurd HA.out (by simp [impl_PlanCells.l1])
          | succ k2 =>
           have H:=HA.out;clear HA;simp only [impl_PlanCells.l1] at H
           by_cases c26 : x33_2 < ((rd_T76 l2 x19_1).f1)
           ·rw [if_pos c26] at H;have c26b0 : decide (x33_2 < ((rd_T76 l2 x19_1).f1)) = true:=decide_eq_true c26;clear c26
            by_cases c27 : x7_2.length < 17592186044416
            ·rw [if_pos c27] at H;have LMc27:=am c27;clear c27;obtain ⟨y222,hy222⟩ : ∃ y_ : List Int,y_ = (x7_2 ++ [((rd_T76 l2 x19_1).f0)]):=⟨_,rfl⟩
             replace H : (impl_PlanCells.l1 k2 y222 l2 (l2.length : Int) x19_1 ((rd_T76 l2 x19_1).f1) (wrap64 (x33_2 + 1)) a0_0 a0_1 l0_2 ((rd_T76 l2 x19_1).f0) ((rd_T76 l2 x19_1).f1)) = some r:=by first | (rw [hy222];with_reducible exact H) | (have H2_:=(Option.bind_some _ _).symm.trans H;rw [hy222];with_reducible exact H2_) | (have H2_:=(Option.bind_some _ _).symm.trans H;with_reducible exact H2_) | with_reducible exact H | (rw [hy222];exact H) | exact H
             have Ny222:=am hy222;clear hy222;have H':=am H;clear H;have hnb28:=NB211_205.out;have hnc28:=NB205_211.out;obtain ⟨hcz29_0,hcz29_1,hfz29_0,hfz29_1⟩:=bcl2 BK211.out;go_wp2_with (first | ((with_reducible refine gate_builtin (b:=.append) (xs:=#[.tmp 35,.tmp 38]) rfl ?_);at_builtin;refine Kd.R_append (Kd.int .i64) (w0:=w) w.heap.size rfl (.tmp 35) (.tmp 38) 49 3 (.int .i64 0) 8 rfl Try.underlying49 info3 rfl (by decide) (by omega) u7 x7_2 ((rd_T76 l2 x19_1).f0) [.int .i64 ((rd_T76 l2 x19_1).f0)] (fun _ => True) (fun _ => False) rfl rfl ?aP (fun _ hk => hk.elim) ?aF ?aO ?aB ?aS ?aL ?_;(case aP => exact rfl);(case aB => exact qq35);(case aF => exact qq235);(case aO => exact qq175);(case aS => exact qq31);(case aL => have:=LMc27.out;omega);intro v223 w30 ho hb hg hat;rw [← Ny222.out] at ho;replace BK205:=am (blk_grown (g:=gb205) (o:=.cells #[.int .i64 a0_0,.int .i64 a0_1,.slice A0_2 l0_2.length c0_2] 51 (0,0)) qq160 hg (Kd.R_ne HO_7.out BK205.out (by decide)));replace BK211:=am (blk_grown (g:=gb211) (o:=.cells #[.int .i64 ((rd_T76 l2 x19_1).f0),.int .i64 ((rd_T76 l2 x19_1).f1)] 76 (0,0)) qq159 hg (Kd.R_ne HO_7.out BK211.out (by decide)));replace HB:=am (hb);have HO224:=am (ho);clear HO_7;clear ho hb hg hat))
             go_roundg k2
             case measure => have:=HK1.out;have:=HK2.out;omega
             case rel => exact ⟨(y222),(wrap64 (x33_2 + 1)),qq217,H',⟨qq221⟩,⟨by (with_reducible repeat (first | apply kA | apply kN | apply kD));exact HO224.out⟩,⟨qq160⟩,⟨qq159⟩,⟨qq49⟩⟩
            ·rw [if_neg c27] at H;exact absurd H (by simp)
           ·rw [if_neg c26] at H;have c26b0 : decide (x33_2 < ((rd_T76 l2 x19_1).f1)) = false:=decide_eq_false c26;clear c26;have H':=am H;clear H;have hnb31:=NB211_205.out;have hnc31:=NB205_211.out;obtain ⟨hcz32_0,hcz32_1,hfz32_0,hfz32_1⟩:=bcl2 BK211.out;go_wp2
            go_roundg k2
            case measure => have:=HK1.out;have:=HK2.out;omega
            case rel => exact ⟨(((rd_T76 l2 x19_1).f0)),(x7_2),(wrap64 (x19_1 + 1)),qq217,qq217,H',⟨qq221⟩,⟨qq207⟩,⟨qq160⟩,⟨qq49⟩⟩
        ·rw [if_neg c16] at H;exact absurd H (by simp)
       ·rw [if_neg c15] at H;exact absurd H (by simp)
      ·rw [if_neg c13] at H;exact absurd H (by simp)
     ·rw [if_neg c12] at H;exact absurd H (by simp)
    ·rw [if_neg c11] at H;have c11b0 : decide (x19_1 < (l2.length : Int)) = false:=decide_eq_false c11;clear c11;obtain rfl:=Option.some.inj H;go_wp2
     go_ret
     exact ⟨_,qq170,qq207,qq102⟩
 ·replace c5:=Bool.eq_false_iff.mpr c5;subst c5;have H1 : (some ([] : List Int)) = some r:=by rw [if_neg (show ¬ (false = true) by decide)] at H;exact H
  clear H;have H:=H1;clear H1;obtain rfl:=Option.some.inj H
  go_enter Try.func45,Try.ntmps45
  go_wp2_with (first | ((with_reducible refine gate_dst (N:=3) rfl ?_);refine box_event ?hg (N:=3) ?hd (cs:=#[.int .i64 a0_0,.int .i64 a0_1,.slice A0_2 l0_2.length c0_2]) (t:=51) ?hr ?_;(case hd => rfl);(case hg => rfl);(case hr => exact qq219);intro gb205 hg w33 hbox hb;have BK205:=am (hbox);have GW205:=am ((qq85 : w.heap.size ≤ gb205));have GE205:=am ((qq85 : w.heap.size ≤ gb205));replace HB:=am (below_step qq140 hb);clear hb hbox hg;obtain ⟨hcz34_0,hcz34_1,hcz34_2,hfz34_0,hfz34_1,hfz34_2⟩:=bcl3 BK205.out) | ((with_reducible refine gate_callee (f:=46) rfl ?_);refine goesL_ (some 13) rfl rfl Try.func46 (by kernel_rfl) rfl #[.agg #[.int .i64 a0_0,.int .i64 a0_1,.slice A0_2 l0_2.length c0_2],.int .i64 a1,.slice A2 l2.length c2] rfl qq112 ?_;(with_reducible refine (impl_IsPlan.calls k a0_0 a0_1 _ _ l0_2 a1 _ _ l2 false _ ?side1 ?side2 ?side3 ?side4 A4.out).mono ?_);(case side1 => exact qq61);(case side2 => exact qq239);(case side3 => exact qq75);(case side4 => exact HC2.out);rintro e w35 ⟨rfl,hb⟩;refine ⟨_,rfl,?_⟩;replace BK205:=am (blk_below (g:=gb205) (o:=.cells #[.int .i64 a0_0,.int .i64 a0_1,.slice A0_2 l0_2.length c0_2] 51 (0,0)) qq160 hb);replace HB:=am (below_step qq102 hb);(try clear hb);(try clear hb2);(try clear hk);(try clear hi)))
  go_ret
  exact ⟨_,qq170,qq83,qq102⟩

/-! ### laws_szIntS: function 102 -/
def laws_szIntS.f (l0 : List Int) (a1 : Int) : Option (Int) := if (wrap64 (a1 - (l0.length : Int))) < 0 then (some (-1)) else (some (wrap64 (a1 - (l0.length : Int))))
set_option maxHeartbeats 8000000 in
set_option maxRecDepth 100000 in
theorem laws_szIntS.calls (A0 : Option Addr) (c0 : Nat) (l0 : List Int) (a1 : Int) (r : Int) (w : World) (hr0 : Kd.C (Kd.int .i64) w A0 l0.length l0) (hc0 : l0.length ≤ c0) (h : laws_szIntS.f l0 a1 = some r) :
  Calls Try.prog 102 #[.slice A0 l0.length c0,.int .i64 a1] w fun e w' => e = .returned (.int .i64 r) ∧ Drawn0 w w':=by
 have HR0:=am hr0;have HC0:=am hc0;clear hr0 hc0;have H : (if (wrap64 (a1 - (l0.length : Int))) < 0 then (some (-1)) else (some (wrap64 (a1 - (l0.length : Int))))) = some r:=h;clear h
 by_cases c3 : (wrap64 (a1 - (l0.length : Int))) < 0
 ·rw [if_pos c3] at H;have c3b0 : decide ((wrap64 (a1 - (l0.length : Int))) < 0) = true:=decide_eq_true c3;clear c3;obtain rfl:=Option.some.inj H
  go_enter Try.func102,Try.ntmps102
  go_wp2
  go_ret
  exact ⟨qq217,qq214⟩
 ·rw [if_neg c3] at H;have c3b0 : decide ((wrap64 (a1 - (l0.length : Int))) < 0) = false:=decide_eq_false c3;clear c3;obtain rfl:=Option.some.inj H
  go_enter Try.func102,Try.ntmps102
  go_wp2
  go_ret
  exact ⟨qq217,qq214⟩

/-! ### laws_szLand: function 53 -/
def laws_szLand.f (a0_0 : Int) (a0_1 : Int) (l0_2 : List Int) (a1 : Int) : Option (Int) := (laws_szIntS.f l0_2 a1).bind fun t226 => (if t226 < 0 then (some (-1)) else (some t226))
set_option maxHeartbeats 8000000 in
set_option maxRecDepth 100000 in
theorem laws_szLand.calls (a0_0 : Int) (a0_1 : Int) (A0_2 : Option Addr) (c0_2 : Nat) (l0_2 : List Int) (a1 : Int) (r : Int) (w : World) (hr0_2 : Kd.C (Kd.int .i64) w A0_2 l0_2.length l0_2) (hc0_2 : l0_2.length ≤ c0_2) (h : laws_szLand.f a0_0 a0_1 l0_2 a1 = some r) :
  Calls Try.prog 53 #[.agg #[.int .i64 a0_0,.int .i64 a0_1,.slice A0_2 l0_2.length c0_2],.int .i64 a1] w fun e w' => e = .returned (.int .i64 r) ∧ Below w.heap.size w w':=by
 have hu81:=Try.underlying81;have HR0_2:=am hr0_2;have HC0_2:=am hc0_2;clear hr0_2 hc0_2;have HB:=am (Below.refl w.heap.size w);have H : ((laws_szIntS.f l0_2 a1).bind fun t226 => (if t226 < 0 then (some (-1)) else (some t226))) = some r:=h;clear h;replace H:=bS.mp H;obtain ⟨t226,A30,H⟩:=H;replace H : (if t226 < 0 then (some (-1)) else (some t226)) = some r:=H;have A3:=am A30;clear A30
 by_cases c4 : t226 < 0
 ·rw [if_pos c4] at H;have c4b0 : decide (t226 < 0) = true:=decide_eq_true c4;clear c4;obtain rfl:=Option.some.inj H
  go_enter Try.func53,Try.ntmps53
  go_wp2_with (first | ((with_reducible refine gate_dst (N:=2) rfl ?_);refine box_event ?hg (N:=2) ?hd (cs:=#[.int .i64 a0_0,.int .i64 a0_1,.slice A0_2 l0_2.length c0_2]) (t:=81) ?hr ?_;(case hd => rfl);(case hg => rfl);(case hr => exact qq219);intro gb225 hg w5 hbox hb;have BK225:=am (hbox);have GW225:=am ((qq85 : w.heap.size ≤ gb225));have GE225:=am ((qq85 : w.heap.size ≤ gb225));replace HB:=am (below_step qq140 hb);clear hb hbox hg;obtain ⟨hcz6_0,hcz6_1,hcz6_2,hfz6_0,hfz6_1,hfz6_2⟩:=bcl3 BK225.out) | ((with_reducible refine gate_callee (f:=102) rfl ?_);refine goesL_ (some 8) rfl rfl Try.func102 (by kernel_rfl) rfl #[.slice A0_2 l0_2.length c0_2,.int .i64 a1] rfl qq112 ?_;(with_reducible refine (laws_szIntS.calls _ _ l0_2 a1 t226 _ ?side1 ?side2 A3.out).mono ?_);(case side1 => exact qq61);(case side2 => exact qq239);rintro e w' ⟨rfl,⟨nd,rfl⟩⟩;refine ⟨_,rfl,?_⟩))
  go_ret
  exact ⟨qq170,qq101⟩
 ·rw [if_neg c4] at H;have c4b0 : decide (t226 < 0) = false:=decide_eq_false c4;clear c4;obtain rfl:=Option.some.inj H
  go_enter Try.func53,Try.ntmps53
  go_wp2_with (first | ((with_reducible refine gate_dst (N:=2) rfl ?_);refine box_event ?hg (N:=2) ?hd (cs:=#[.int .i64 a0_0,.int .i64 a0_1,.slice A0_2 l0_2.length c0_2]) (t:=81) ?hr ?_;(case hd => rfl);(case hg => rfl);(case hr => exact qq219);intro gb225 hg w7 hbox hb;have BK225:=am (hbox);have GW225:=am ((qq85 : w.heap.size ≤ gb225));have GE225:=am ((qq85 : w.heap.size ≤ gb225));replace HB:=am (below_step qq140 hb);clear hb hbox hg;obtain ⟨hcz8_0,hcz8_1,hcz8_2,hfz8_0,hfz8_1,hfz8_2⟩:=bcl3 BK225.out) | ((with_reducible refine gate_callee (f:=102) rfl ?_);refine goesL_ (some 8) rfl rfl Try.func102 (by kernel_rfl) rfl #[.slice A0_2 l0_2.length c0_2,.int .i64 a1] rfl qq112 ?_;(with_reducible refine (laws_szIntS.calls _ _ l0_2 a1 t226 _ ?side1 ?side2 A3.out).mono ?_);(case side1 => exact qq61);(case side2 => exact qq239);rintro e w' ⟨rfl,⟨nd,rfl⟩⟩;refine ⟨_,rfl,?_⟩))
  go_ret
  exact ⟨qq170,qq101⟩

/-! ### laws_szLegS: function 54 -/
def laws_szLegS.f (l0 : List (S130)) (a1 : Int) : Option (Int) := if (wrap64 (a1 - (l0.length : Int))) < 0 then (some (-1)) else (some (wrap64 (a1 - (l0.length : Int))))
set_option maxHeartbeats 8000000 in
set_option maxRecDepth 100000 in
theorem laws_szLegS.calls (A0 : Option Addr) (c0 : Nat) (l0 : List (S130)) (a1 : Int) (r : Int) (w : World) (hr0 : Kd.C k130 w A0 l0.length l0) (hc0 : l0.length ≤ c0) (h : laws_szLegS.f l0 a1 = some r) :
  Calls Try.prog 54 #[.slice A0 l0.length c0,.int .i64 a1] w fun e w' => e = .returned (.int .i64 r) ∧ Drawn0 w w':=by
 have HR0:=am hr0;have HC0:=am hc0;clear hr0 hc0;have H : (if (wrap64 (a1 - (l0.length : Int))) < 0 then (some (-1)) else (some (wrap64 (a1 - (l0.length : Int))))) = some r:=h;clear h
 by_cases c3 : (wrap64 (a1 - (l0.length : Int))) < 0
 ·rw [if_pos c3] at H;have c3b0 : decide ((wrap64 (a1 - (l0.length : Int))) < 0) = true:=decide_eq_true c3;clear c3;obtain rfl:=Option.some.inj H
  go_enter Try.func54,Try.ntmps54
  go_wp2
  go_ret
  exact ⟨qq217,qq214⟩
 ·rw [if_neg c3] at H;have c3b0 : decide ((wrap64 (a1 - (l0.length : Int))) < 0) = false:=decide_eq_false c3;clear c3;obtain rfl:=Option.some.inj H
  go_enter Try.func54,Try.ntmps54
  go_wp2
  go_ret
  exact ⟨qq217,qq214⟩

/-! ### laws_toIntS: function 106 -/
def laws_toIntS.l0 : Nat → List Int → List Int → Int → Option (List Int)
 | 0,_,_,_ => none
 | k + 1,x0,x3,x4 => if x4 < (x0.length : Int) then (if 0 ≤ x4 then (if x4 < (x3.length : Int) then (laws_toIntS.l0 k x0 (x3.set (x4 : Int).toNat (rd x0 x4)) (wrap64 (x4 + 1))) else (none)) else (none)) else (some x3)
def laws_toIntS.f (k : Nat) (l0 : List Int) : Option (List Int) := if 0 ≤ (l0.length : Int) then (if ((l0.length : Int) : Int).toNat ≤ 35184372088832 then (laws_toIntS.l0 k l0 (List.replicate ((l0.length : Int) : Int).toNat 0) 0) else (none)) else (none)
theorem laws_toIntS.mono_l : ∀ k, (∀ y0 y1 y2, LeO (laws_toIntS.l0 k y0 y1 y2) (laws_toIntS.l0 (k + 1) y0 y1 y2))
 | 0 => fun _ _ _ r h => by simp [laws_toIntS.l0] at h
 | k + 1 => by
  have ih0:=laws_toIntS.mono_l k
  ·intro y0 y1 y2
   unfold laws_toIntS.l0
   repeat' first
   | (with_reducible exact ih0 _ _ _)
   | (with_reducible exact LeO.refl _)
   | (with_reducible exact LeO.none _)
   | (with_reducible refine LeO.ite ?_ ?_)
   | (with_reducible refine LeO.bind ?_ (fun _ => ?_))
   | exact ih0 _ _ _
   | exact LeO.none _
   | refine LeO.ite ?_ ?_
   | refine LeO.bind ?_ (fun _ => ?_)
theorem laws_toIntS.mono : ∀ a0 k, LeO (laws_toIntS.f k a0) (laws_toIntS.f (k + 1) a0) := by
 intro a0 k
 have ih0:=laws_toIntS.mono_l k
 unfold laws_toIntS.f
 repeat' first
   | (with_reducible exact ih0 _ _ _)
   | (with_reducible exact LeO.refl _)
   | (with_reducible exact LeO.none _)
   | (with_reducible refine LeO.ite ?_ ?_)
   | (with_reducible refine LeO.bind ?_ (fun _ => ?_))
   | exact ih0 _ _ _
   | exact LeO.none _
   | refine LeO.ite ?_ ?_
   | refine LeO.bind ?_ (fun _ => ?_)
set_option maxHeartbeats 8000000 in
set_option maxRecDepth 100000 in
theorem laws_toIntS.calls (k : Nat) (A0 : Option Addr) (c0 : Nat) (l0 : List Int) (r : List Int) (w : World) (hr0 : Kd.C (Kd.int .i64) w A0 l0.length l0) (hc0 : l0.length ≤ c0) (h : laws_toIntS.f k l0 = some r) :
  Calls Try.prog 106 #[.slice A0 l0.length c0] w fun e w' => ∃ v0_ : Value,e = .returned (v0_) ∧ Kd.R (Kd.int .i64) 3 w' w.heap.size (fun _ => True) v0_ r ∧ Below w.heap.size w w':=by
 have HR0:=am hr0;have HC0:=am hc0;clear hr0 hc0;have HB:=am (Below.refl w.heap.size w);have H : (if 0 ≤ (l0.length : Int) then (if ((l0.length : Int) : Int).toNat ≤ 35184372088832 then (laws_toIntS.l0 k l0 (List.replicate ((l0.length : Int) : Int).toNat 0) 0) else (none)) else (none)) = some r:=h;clear h
 by_cases c2 : 0 ≤ (l0.length : Int)
 ·rw [if_pos c2] at H;have c2b0:=eq_true c2;have c2b1 : decide (0 ≤ (l0.length : Int)) = true:=decide_eq_true c2;clear c2
  by_cases c3 : ((l0.length : Int) : Int).toNat ≤ 35184372088832
  ·rw [if_pos c3] at H;have c3b0:=eq_true c3;have c3b1 : decide (((l0.length : Int) : Int).toNat ≤ 35184372088832) = true:=decide_eq_true c3;clear c3;obtain ⟨y227,hy227⟩ : ∃ y_ : List Int,y_ = (List.replicate ((l0.length : Int) : Int).toNat 0):=⟨_,rfl⟩
   replace H : (laws_toIntS.l0 k l0 y227 0) = some r:=by first | (rw [hy227];with_reducible exact H) | (have H2_:=(Option.bind_some _ _).symm.trans H;rw [hy227];with_reducible exact H2_) | (have H2_:=(Option.bind_some _ _).symm.trans H;with_reducible exact H2_) | with_reducible exact H | (rw [hy227];exact H) | exact H
   have Ny227:=am hy227;clear hy227;have H':=am H;clear H
   go_enter Try.func106,Try.ntmps106
   go_wp2_with (first | ((with_reducible refine gate_dst (N:=7) rfl ?_);refine Kd.R_make (Kd.int .i64) _ 3 rfl (N:=7) rfl 49 _ _ rfl (l0.length : Int) rfl rfl Try.underlying49 (.int .i64 0) 8 info3 rfl (by decide) (by omega) 0 (ok:=fun _ => True) (okp:=fun _ => True) rfl (fun _ hk => hk) trivial (odt qq215) (Nat.le_trans (Nat.mul_le_mul_right _ (odt qq215 : (l0.length : Int).toNat ≤ 35184372088832)) (by omega)) (Below.refl _ _) (Nat.le_refl _) ?_;intro v228 w4 ho5 hb hg_ hnew_;clear hg_ hnew_;(first | rw [← Ny227.out] at ho5 | (simp only [Int.reduceToNat] at ho5;rw [← Ny227.out] at ho5));have HO229:=am (Kd.R_lower ho5 (below_size qq140));replace HB:=am (below_step qq140 hb);clear hb ho5))
   go_loopg [4] k (fun kq v4 w' => ∃ (x3_1 : List Int) (x4_1 : Int),v4 = .int .i64 x4_1 ∧ Aside0 (laws_toIntS.l0 kq l0 x3_1 x4_1 = some r) ∧ Aside0 (kq ≤ k) ∧ Aside0 (Kd.R (Kd.int .i64) 3 w' w.heap.size (fun _ => True) v228 x3_1) ∧ Aside0 (Below w.heap.size w w'))
   case atStart => exact ⟨(y227),(0),qq217,H',⟨Nat.le_refl _⟩,⟨by (with_reducible repeat (first | apply kA | apply kN | apply kD));exact HO229.out⟩,⟨qq140⟩⟩
   case round =>
    clear H'
    try clear c1
    try clear c2
    try clear c2b0
    try clear c2b1
    try clear p2
    try clear c3
    try clear c3b0
    try clear c3b1
    obtain ⟨x3_1,x4_1,rfl,HA,HK1,HO_3,HB⟩:=hrel
    cases gk with
    | zero => exact absurd HA.out (by simp [laws_toIntS.l0])
    | succ k1 =>
     have H:=HA.out;clear HA;simp only [laws_toIntS.l0] at H
     by_cases c6 : x4_1 < (l0.length : Int)
     ·rw [if_pos c6] at H;have c6b0 : decide (x4_1 < (l0.length : Int)) = true:=decide_eq_true c6;clear c6
      by_cases c7 : 0 ≤ x4_1
      ·rw [if_pos c7] at H;have c7b0 : decide (0 ≤ x4_1) = true:=decide_eq_true c7;clear c7
       by_cases c8 : x4_1 < (x3_1.length : Int)
       ·rw [if_pos c8] at H;have c8b0 : decide (x4_1 < (x3_1.length : Int)) = true:=decide_eq_true c8;clear c8;obtain ⟨y231,hy231⟩ : ∃ y_ : List Int,y_ = (x3_1.set (x4_1 : Int).toNat (rd l0 x4_1)):=⟨_,rfl⟩
        replace H : (laws_toIntS.l0 k1 l0 y231 (wrap64 (x4_1 + 1))) = some r:=by first | (rw [hy231];with_reducible exact H) | (have H2_:=(Option.bind_some _ _).symm.trans H;rw [hy231];with_reducible exact H2_) | (have H2_:=(Option.bind_some _ _).symm.trans H;with_reducible exact H2_) | with_reducible exact H | (rw [hy231];exact H) | exact H
        have Ny231:=am hy231;clear hy231;have H':=am H;clear H;have p230 : 0 ≤ (x4_1 : Int):=odt qq215;have q230 : x4_1 < (l0.length : Int):=odt qq215;obtain ⟨ad230,e230,hx230_0⟩:=Kd.at_int HR0.out x4_1 p230 q230
        cases e230
        replace hx230_0:=(ct HB.out hx230_0 :)
        replace p230:=eq_true p230;replace q230:=eq_true q230;have p9 : 0 ≤ (x4_1 : Int):=odt qq215;have q9 : (x4_1 : Int) < ((x3_1.length : Int) : Int):=odt qq215;obtain ⟨go9,co9,eo9,gb9,gl9,cl9,HG9⟩:=Kd.R_form HO_3.out (by omega);(first | cases eo9 | (injection eo9 with ea_ en_ ec_;(first | subst ea_ | (injection ea_ with ea_;subst ea_));subst ec_;clear en_));have GB9:=am gb9;have GG9:=am HG9;clear gb9 gl9 HG9;obtain ⟨hx9_0,hf9_0⟩:=Kd.R_celln 0 HO_3.out (x4_1 : Int) p9 q9;replace p9:=eq_true p9;replace q9:=eq_true q9;have HP10:=Kd.R_putg HO_3.out (x4_1 : Int) (rd l0 x4_1);go_wp2_with (first | ((with_reducible refine gate_store (t:=3) (p:=20) rfl ?_);refine store_event (t:=3) (p:=20) (v:=?vo_w11) (w1:=(wr.setCell ⟨go9,(x4_1 : Int).toNat,none⟩ (.int .i64 (rd l0 x4_1)))) ?hg ?ho ?hn ?hr ?_;(case ho => rfl);(case hg => rfl);(case hn => rfl);(case hr => exact qq219);intro w11 hw;have hg : wr.grownBy w11 (some go9):=(by rw [hw];exact HP10.2);have hp_ : Kd.R (Kd.int .i64) 3 w11 w.heap.size (fun _ => True) (.slice (some ⟨go9,0,none⟩) x3_1.length co9) y231:=(by rw [hw,Ny231.out];exact HP10.1);clear HP10;replace HO_3:=am (hp_);replace HB:=am ((by rw [hw];exact below_set (HB.out) GB9.out : Below w.heap.size w w11));clear hg hw hp_))
        go_roundg k1
        case measure => have:=HK1.out;omega
        case rel => exact ⟨(y231),(wrap64 (x4_1 + 1)),qq217,H',⟨qq238⟩,⟨qq209⟩,⟨qq140⟩⟩
       ·rw [if_neg c8] at H;exact absurd H (by simp)
      ·rw [if_neg c7] at H;exact absurd H (by simp)
     ·rw [if_neg c6] at H;have c6b0 : decide (x4_1 < (l0.length : Int)) = false:=decide_eq_false c6;clear c6;obtain rfl:=Option.some.inj H;go_wp2
      go_ret
      exact ⟨_,qq170,qq209,qq140⟩
  ·rw [if_neg c3] at H;exact absurd H (by simp)
 ·rw [if_neg c2] at H;exact absurd H (by simp)

/-! ### laws_toLand: function 56 -/
def laws_toLand.f (k : Nat) (a0_0 : Int) (a0_1 : Int) (l0_2 : List Int) : Option (Int × Int × List Int) := (laws_toIntS.f k l0_2).bind fun t235 => (some (a0_0, a0_1, t235))
theorem laws_toLand.mono : ∀ a0 a1 a2 k, LeO (laws_toLand.f k a0 a1 a2) (laws_toLand.f (k + 1) a0 a1 a2) := by
 intro a0 a1 a2 k
 unfold laws_toLand.f
 repeat' first
   | (with_reducible exact laws_toIntS.mono _ _)
   | (with_reducible exact LeO.refl _)
   | (with_reducible exact LeO.none _)
   | (with_reducible refine LeO.ite ?_ ?_)
   | (with_reducible refine LeO.bind ?_ (fun _ => ?_))
   | exact laws_toIntS.mono _ _
   | exact LeO.none _
   | refine LeO.ite ?_ ?_
   | refine LeO.bind ?_ (fun _ => ?_)
set_option maxHeartbeats 8000000 in
set_option maxRecDepth 100000 in
theorem laws_toLand.calls (k : Nat) (a0_0 : Int) (a0_1 : Int) (A0_2 : Option Addr) (c0_2 : Nat) (l0_2 : List Int) (r1 : Int) (r2 : Int) (r3 : List Int) (w : World) (hr0_2 : Kd.C (Kd.int .i64) w A0_2 l0_2.length l0_2) (hc0_2 : l0_2.length ≤ c0_2) (h : laws_toLand.f k a0_0 a0_1 l0_2 = some (r1, r2, r3)) :
  Calls Try.prog 56 #[.agg #[.int .i64 a0_0,.int .i64 a0_1,.slice A0_2 l0_2.length c0_2]] w fun e w' => ∃ v2_ : Value,e = .returned (.agg #[.int .i64 r1,.int .i64 r2,v2_]) ∧ Kd.R (Kd.int .i64) 3 w' w.heap.size (fun _ => True) v2_ r3 ∧ Below w.heap.size w w':=by
 have hu81:=Try.underlying81;have hu51:=Try.underlying51;have HR0_2:=am hr0_2;have HC0_2:=am hc0_2;clear hr0_2 hc0_2;have HB:=am (Below.refl w.heap.size w);have H : ((laws_toIntS.f k l0_2).bind fun t235 => (some (a0_0,a0_1,t235))) = some (r1,r2,r3):=h;clear h;replace H:=bS.mp H;obtain ⟨t235,A20,H⟩:=H;replace H : (some (a0_0,a0_1,t235)) = some (r1,r2,r3):=H;have A2:=am A20;clear A20;simp only [Option.some.injEq,Prod.mk.injEq] at H;obtain ⟨rfl,rfl,rfl⟩:=H
 go_enter Try.func56,Try.ntmps56
 go_wp2_with (first | ((with_reducible refine gate_dst (N:=1) rfl ?_);refine box_event ?hg (N:=1) ?hd (cs:=#[.int .i64 a0_0,.int .i64 a0_1,.slice A0_2 l0_2.length c0_2]) (t:=81) ?hr ?_;(case hd => rfl);(case hg => rfl);(case hr => exact qq219);intro gb232 hg w3 hbox hb;have BK232:=am (hbox);have GW232:=am ((qq85 : w.heap.size ≤ gb232));have GE232:=am ((qq85 : w.heap.size ≤ gb232));replace HB:=am (below_step qq140 hb);clear hb hbox hg) | ((with_reducible refine gate_dst (N:=2) rfl ?_);refine box_event ?hg (N:=2) ?hd (cs:=#[.int .i64 0,.int .i64 0,.slice none 0 0]) (t:=51) ?hr ?_;(case hd => rfl);(case hg => rfl);(case hr => exact qq219);intro gb233 hg w4 hbox hb;have BK233:=am (hbox);have GW233:=am ((qq41 : w.heap.size ≤ gb233));have GE233:=am ((qq41 : w.heap.size ≤ gb233));replace HB:=am (below_step qq100 hb);have NB232_233:=am ((qq15 : gb232 ≠ gb233));have NB233_232:=am ((qq19 : gb233 ≠ gb232));replace BK232:=am (blk_below (g:=gb232) (o:=.cells #[.int .i64 a0_0,.int .i64 a0_1,.slice A0_2 l0_2.length c0_2] 81 (0,0)) qq158 hb);clear hb hbox hg) | ((with_reducible refine gate_dst (N:=3) rfl ?_);refine box_event ?hg (N:=3) ?hd (cs:=#[.int .i64 0,.int .i64 0,.slice none 0 0]) (t:=51) ?hr ?_;(case hd => rfl);(case hg => rfl);(case hr => exact qq219);intro gb234 hg w5 hbox hb;have BK234:=am (hbox);have GW234:=am ((qq27 : w.heap.size ≤ gb234));have GE234:=am ((qq27 : w.heap.size ≤ gb234));replace HB:=am (below_step qq48 hb);have NB232_234:=am ((qq15 : gb232 ≠ gb234));have NB234_232:=am ((qq19 : gb234 ≠ gb232));replace BK232:=am (blk_below (g:=gb232) (o:=.cells #[.int .i64 a0_0,.int .i64 a0_1,.slice A0_2 l0_2.length c0_2] 81 (0,0)) qq158 hb);have NB233_234:=am ((by rw [hg];exact Nat.ne_of_lt (blk_lt (g:=gb233) (o:=.cells #[.int .i64 0,.int .i64 0,.slice none 0 0] 51 (0,0)) qq157) : gb233 ≠ gb234));have NB234_233:=am ((by rw [hg];exact Nat.ne_of_gt (blk_lt (g:=gb233) (o:=.cells #[.int .i64 0,.int .i64 0,.slice none 0 0] 51 (0,0)) qq157) : gb234 ≠ gb233));replace BK233:=am (blk_below (g:=gb233) (o:=.cells #[.int .i64 0,.int .i64 0,.slice none 0 0] 51 (0,0)) qq157 hb);clear hb hbox hg;have hnb6:=NB232_233.out;have hnc6:=NB233_232.out;have hnb7:=NB232_234.out;have hnc7:=NB234_232.out;obtain ⟨hcz8_0,hcz8_1,hcz8_2,hfz8_0,hfz8_1,hfz8_2⟩:=bcl3 BK232.out;have hnb9:=NB234_233.out;have hnc9:=NB233_234.out;obtain ⟨hcz10_0,hcz10_1,hcz10_2,hfz10_0,hfz10_1,hfz10_2⟩:=bcl3 BK234.out) | ((with_reducible refine gate_callee (f:=106) rfl ?_);refine goesL_ (some 12) rfl rfl Try.func106 (by kernel_rfl) rfl #[.slice A0_2 l0_2.length c0_2] rfl qq112 ?_;(with_reducible refine (laws_toIntS.calls k _ _ l0_2 t235 _ ?side1 ?side2 A2.out).mono ?_);(case side1 => exact Kd.C_below HR0_2.out qq28);(case side2 => exact qq239);rintro e w11 ⟨v236,rfl,ho0,hb⟩;refine ⟨_,rfl,?_⟩;have HO237:=am (Kd.R_lower ho0 (below_size qq28));replace BK232:=am (blk_below (g:=gb232) (o:=.cells #[.int .i64 a0_0,.int .i64 a0_1,.slice A0_2 l0_2.length c0_2] 81 (0,0)) (by (with_reducible repeat (first | refine dN ?_ _ | refine dD ?_ | refine dA ?_ _));refine blk_far ?_ NB232_234.out _;(with_reducible repeat (first | refine dN ?_ _ | refine dD ?_ | refine dA ?_ _));refine blk_far ?_ NB232_234.out _;(with_reducible repeat (first | refine dN ?_ _ | refine dD ?_ | refine dA ?_ _));exact BK232.out) hb);replace BK233:=am (blk_below (g:=gb233) (o:=.cells #[.int .i64 0,.int .i64 0,.slice none 0 0] 51 (0,0)) (by (with_reducible repeat (first | refine dN ?_ _ | refine dD ?_ | refine dA ?_ _));refine blk_far ?_ NB233_234.out _;(with_reducible repeat (first | refine dN ?_ _ | refine dD ?_ | refine dA ?_ _));refine blk_far ?_ NB233_234.out _;(with_reducible repeat (first | refine dN ?_ _ | refine dD ?_ | refine dA ?_ _));exact BK233.out) hb);replace BK234:=am (blk_below (g:=gb234) (o:=.cells #[.int .i64 a0_0,.int .i64 a0_1,.slice none 0 0] 51 (0,0)) (by (with_reducible repeat (first | refine dN ?_ _ | refine dD ?_ | refine dA ?_ _));refine blk_put (cs:=#[.int .i64 a0_0,.int .i64 0,.slice none 0 0]) ?_ 1 _ rfl;(with_reducible repeat (first | refine dN ?_ _ | refine dD ?_ | refine dA ?_ _));refine blk_put (cs:=#[.int .i64 0,.int .i64 0,.slice none 0 0]) ?_ 0 _ rfl;(with_reducible repeat (first | refine dN ?_ _ | refine dD ?_ | refine dA ?_ _));exact BK234.out) hb);replace HB:=am (below_step qq28 hb);(try clear hb);(try clear hb2);(try clear hk);(try clear hi);(try clear ho0);obtain ⟨Ao12,co12,eo12⟩:=Kd.R_slice HO237.out;subst eo12;obtain ⟨hcz13_0,hcz13_1,hcz13_2,hfz13_0,hfz13_1,hfz13_2⟩:=bcl3 BK234.out;obtain ⟨hcz14_0,hcz14_1,hcz14_2,hfz14_0,hfz14_1,hfz14_2⟩:=bcl3 BK233.out))
 refine bodyPost_ret (results_cell_row rfl _ _ gb233 51 #[.int .i64 a0_0,.int .i64 a0_1,.slice Ao12 t235.length co12] (0,0) _ rfl (by (with_reducible repeat (first | refine dN ?_ _ | refine dD ?_ | refine dA ?_ _));refine blk_put (cs:=#[.int .i64 a0_0,.int .i64 a0_1,.slice none 0 0]) ?_ 2 _ rfl;(with_reducible repeat (first | refine dN ?_ _ | refine dD ?_ | refine dA ?_ _));refine blk_put (cs:=#[.int .i64 a0_0,.int .i64 0,.slice none 0 0]) ?_ 1 _ rfl;(with_reducible repeat (first | refine dN ?_ _ | refine dD ?_ | refine dA ?_ _));refine blk_put (cs:=#[.int .i64 0,.int .i64 0,.slice none 0 0]) ?_ 0 _ rfl;(with_reducible repeat (first | refine dN ?_ _ | refine dD ?_ | refine dA ?_ _));refine blk_far ?_ NB233_234.out _;(with_reducible repeat (first | refine dN ?_ _ | refine dD ?_ | refine dA ?_ _));exact BK233.out) Try.underlying51 rfl (by kernel_rfl)) rfl ?_;exact ⟨_,qq170,by (with_reducible repeat (first | apply kA | apply kN | apply kD));exact Kd.R_mono (Kd.R_far (p:=⟨gb233,2,none⟩) (Kd.R_far (p:=⟨gb233,1,none⟩) (Kd.R_far (p:=⟨gb233,0,none⟩) (Kd.R_far (p:=⟨gb234,2,none⟩) (Kd.R_types (Kd.R_types HO237.out BK234.out (by decide)) BK233.out (by decide)) (fun _ hk => hk.1.2) (.slice Ao12 t235.length co12)) (fun _ hk => hk.2) (.int .i64 a0_0)) (fun _ hk => hk.2) (.int .i64 a0_1)) (fun _ hk => hk.2) (.slice Ao12 t235.length co12)) (fun _ hk => trivial),qq28⟩

/-! ### laws_toLeg: function 107 -/
def laws_toLeg.f (a0_0 : Int) (a0_1 : Int) : Option (Int × Int) := some (a0_0, a0_1)
set_option maxHeartbeats 8000000 in
set_option maxRecDepth 100000 in
theorem laws_toLeg.calls (a0_0 : Int) (a0_1 : Int) (r1 : Int) (r2 : Int) (w : World) (h : laws_toLeg.f a0_0 a0_1 = some (r1, r2)) :
  Calls Try.prog 107 #[.agg #[.int .i64 a0_0,.int .i64 a0_1]] w fun e w' => e = .returned (.agg #[.int .i64 r1,.int .i64 r2]) ∧ Below w.heap.size w w':=by
 have hu130:=Try.underlying130;have hu76:=Try.underlying76;have HB:=am (Below.refl w.heap.size w);have H : (some (a0_0,a0_1)) = some (r1,r2):=h;clear h;simp only [Option.some.injEq,Prod.mk.injEq] at H;obtain ⟨rfl,rfl⟩:=H
 go_enter Try.func107,Try.ntmps107
 go_wp2_with (first | ((with_reducible refine gate_dst (N:=1) rfl ?_);refine box_event ?hg (N:=1) ?hd (cs:=#[.int .i64 a0_0,.int .i64 a0_1]) (t:=130) ?hr ?_;(case hd => rfl);(case hg => rfl);(case hr => exact qq219);intro gb238 hg w2 hbox hb;have BK238:=am (hbox);have GW238:=am ((qq85 : w.heap.size ≤ gb238));have GE238:=am ((qq85 : w.heap.size ≤ gb238));replace HB:=am (below_step qq140 hb);clear hb hbox hg) | ((with_reducible refine gate_dst (N:=2) rfl ?_);refine box_event ?hg (N:=2) ?hd (cs:=#[.int .i64 0,.int .i64 0]) (t:=76) ?hr ?_;(case hd => rfl);(case hg => rfl);(case hr => exact qq219);intro gb239 hg w3 hbox hb;have BK239:=am (hbox);have GW239:=am ((qq40 : w.heap.size ≤ gb239));have GE239:=am ((qq40 : w.heap.size ≤ gb239));replace HB:=am (below_step qq99 hb);have NB238_239:=am ((qq22 : gb238 ≠ gb239));have NB239_238:=am ((qq23 : gb239 ≠ gb238));replace BK238:=am (blk_below (g:=gb238) (o:=.cells #[.int .i64 a0_0,.int .i64 a0_1] 130 (0,0)) qq156 hb);clear hb hbox hg) | ((with_reducible refine gate_dst (N:=3) rfl ?_);refine box_event ?hg (N:=3) ?hd (cs:=#[.int .i64 0,.int .i64 0]) (t:=76) ?hr ?_;(case hd => rfl);(case hg => rfl);(case hr => exact qq219);intro gb240 hg w4 hbox hb;have BK240:=am (hbox);have GW240:=am ((qq26 : w.heap.size ≤ gb240));have GE240:=am ((qq26 : w.heap.size ≤ gb240));replace HB:=am (below_step qq47 hb);have NB238_240:=am ((qq22 : gb238 ≠ gb240));have NB240_238:=am ((qq23 : gb240 ≠ gb238));replace BK238:=am (blk_below (g:=gb238) (o:=.cells #[.int .i64 a0_0,.int .i64 a0_1] 130 (0,0)) qq156 hb);have NB239_240:=am ((by rw [hg];exact Nat.ne_of_lt (blk_lt (g:=gb239) (o:=.cells #[.int .i64 0,.int .i64 0] 76 (0,0)) qq155) : gb239 ≠ gb240));have NB240_239:=am ((by rw [hg];exact Nat.ne_of_gt (blk_lt (g:=gb239) (o:=.cells #[.int .i64 0,.int .i64 0] 76 (0,0)) qq155) : gb240 ≠ gb239));replace BK239:=am (blk_below (g:=gb239) (o:=.cells #[.int .i64 0,.int .i64 0] 76 (0,0)) qq155 hb);clear hb hbox hg;have hnb5:=NB238_239.out;have hnc5:=NB239_238.out;have hnb6:=NB238_240.out;have hnc6:=NB240_238.out;obtain ⟨hcz7_0,hcz7_1,hfz7_0,hfz7_1⟩:=bcl2 BK238.out;have hnb8:=NB240_239.out;have hnc8:=NB239_240.out;obtain ⟨hcz9_0,hcz9_1,hfz9_0,hfz9_1⟩:=bcl2 BK240.out;obtain ⟨hcz10_0,hcz10_1,hfz10_0,hfz10_1⟩:=bcl2 BK239.out))
 refine bodyPost_ret (results_cell_row rfl _ _ gb239 76 #[.int .i64 a0_0,.int .i64 a0_1] (0,0) _ rfl (by (with_reducible repeat (first | refine dN ?_ _ | refine dD ?_ | refine dA ?_ _));refine blk_put (cs:=#[.int .i64 a0_0,.int .i64 0]) ?_ 1 _ rfl;(with_reducible repeat (first | refine dN ?_ _ | refine dD ?_ | refine dA ?_ _));refine blk_put (cs:=#[.int .i64 0,.int .i64 0]) ?_ 0 _ rfl;(with_reducible repeat (first | refine dN ?_ _ | refine dD ?_ | refine dA ?_ _));refine blk_far ?_ NB239_240.out _;(with_reducible repeat (first | refine dN ?_ _ | refine dD ?_ | refine dA ?_ _));refine blk_far ?_ NB239_240.out _;(with_reducible repeat (first | refine dN ?_ _ | refine dD ?_ | refine dA ?_ _));exact BK239.out) Try.underlying76 rfl (by kernel_rfl)) rfl ?_;exact ⟨qq170,by repeat (first | (with_reducible first | exact HB.out | apply bA | apply bN | apply bD | refine below_set ?_ GE238.out | refine below_set ?_ GE239.out | refine below_set ?_ GE240.out) | exact HB.out)⟩

/-! ### laws_toLegS: function 57 -/
def laws_toLegS.l0 : Nat → List (S130) → List (S76) → Int → Option ((List (S76)))
 | 0,_,_,_ => none
 | k + 1,x0,x3,x4 => if x4 < (x0.length : Int) then (if 0 ≤ x4 then ((laws_toLeg.f ((rd_T130 x0 x4).f0) ((rd_T130 x0 x4).f1)).bind fun bt245 => (if x4 < (x3.length : Int) then (laws_toLegS.l0 k x0 (x3.set (x4 : Int).toNat (⟨bt245.1,bt245.2⟩ : S76)) (wrap64 (x4 + 1))) else (none))) else (none)) else (some x3)
def laws_toLegS.f (k : Nat) (l0 : List (S130)) : Option ((List (S76))) := if 0 ≤ (l0.length : Int) then (if ((l0.length : Int) : Int).toNat ≤ 17592186044416 then (laws_toLegS.l0 k l0 (List.replicate ((l0.length : Int) : Int).toNat z76) 0) else (none)) else (none)
theorem laws_toLegS.mono_l : ∀ k, (∀ y0 y1 y2, LeO (laws_toLegS.l0 k y0 y1 y2) (laws_toLegS.l0 (k + 1) y0 y1 y2))
 | 0 => fun _ _ _ r h => by simp [laws_toLegS.l0] at h
 | k + 1 => by
  have ih0:=laws_toLegS.mono_l k
  ·intro y0 y1 y2
   unfold laws_toLegS.l0
   repeat' first
   | (with_reducible exact ih0 _ _ _)
   | (with_reducible exact LeO.refl _)
   | (with_reducible exact LeO.none _)
   | (with_reducible refine LeO.ite ?_ ?_)
   | (with_reducible refine LeO.bind ?_ (fun _ => ?_))
   | exact ih0 _ _ _
   | exact LeO.none _
   | refine LeO.ite ?_ ?_
   | refine LeO.bind ?_ (fun _ => ?_)
theorem laws_toLegS.mono : ∀ a0 k, LeO (laws_toLegS.f k a0) (laws_toLegS.f (k + 1) a0) := by
 intro a0 k
 have ih0:=laws_toLegS.mono_l k
 unfold laws_toLegS.f
 repeat' first
   | (with_reducible exact ih0 _ _ _)
   | (with_reducible exact LeO.refl _)
   | (with_reducible exact LeO.none _)
   | (with_reducible refine LeO.ite ?_ ?_)
   | (with_reducible refine LeO.bind ?_ (fun _ => ?_))
   | exact ih0 _ _ _
   | exact LeO.none _
   | refine LeO.ite ?_ ?_
   | refine LeO.bind ?_ (fun _ => ?_)
set_option maxHeartbeats 8000000 in
set_option maxRecDepth 100000 in
theorem laws_toLegS.calls (k : Nat) (A0 : Option Addr) (c0 : Nat) (l0 : List (S130)) (r : List (S76)) (w : World) (hr0 : Kd.C k130 w A0 l0.length l0) (hc0 : l0.length ≤ c0) (h : laws_toLegS.f k l0 = some r) :
  Calls Try.prog 57 #[.slice A0 l0.length c0] w fun e w' => ∃ v0_ : Value,e = .returned (v0_) ∧ Kd.R k76 76 w' w.heap.size (fun _ => True) v0_ r ∧ Below w.heap.size w w':=by
 have hu130:=Try.underlying130;have hu76:=Try.underlying76;have HR0:=am hr0;have HC0:=am hc0;clear hr0 hc0;have HB:=am (Below.refl w.heap.size w);have H : (if 0 ≤ (l0.length : Int) then (if ((l0.length : Int) : Int).toNat ≤ 17592186044416 then (laws_toLegS.l0 k l0 (List.replicate ((l0.length : Int) : Int).toNat z76) 0) else (none)) else (none)) = some r:=h;clear h
 by_cases c2 : 0 ≤ (l0.length : Int)
 ·rw [if_pos c2] at H;have c2b0:=eq_true c2;have c2b1 : decide (0 ≤ (l0.length : Int)) = true:=decide_eq_true c2;clear c2
  by_cases c3 : ((l0.length : Int) : Int).toNat ≤ 17592186044416
  ·rw [if_pos c3] at H;have c3b0:=eq_true c3;have c3b1 : decide (((l0.length : Int) : Int).toNat ≤ 17592186044416) = true:=decide_eq_true c3;clear c3;obtain ⟨y241,hy241⟩ : ∃ y_ : List (S76),y_ = (List.replicate ((l0.length : Int) : Int).toNat z76):=⟨_,rfl⟩
   replace H : (laws_toLegS.l0 k l0 y241 0) = some r:=by first | (rw [hy241];with_reducible exact H) | (have H2_:=(Option.bind_some _ _).symm.trans H;rw [hy241];with_reducible exact H2_) | (have H2_:=(Option.bind_some _ _).symm.trans H;with_reducible exact H2_) | with_reducible exact H | (rw [hy241];exact H) | exact H
   have Ny241:=am hy241;clear hy241;have H':=am H;clear H
   go_enter Try.func57,Try.ntmps57
   go_wp2_with (first | ((with_reducible refine gate_dst (N:=7) rfl ?_);refine Kd.R_make k76 _ 76 rfl (N:=7) rfl 68 _ _ rfl (l0.length : Int) rfl rfl Try.underlying68 (.agg #[(.int .i64 0),(.int .i64 0)]) 16 info76 rfl (by decide) (by omega) z76 (ok:=fun _ => True) (okp:=fun _ => True) (k76_mkM _ _ _ z76 ) (fun _ hk => hk) trivial (odt qq215) (Nat.le_trans (Nat.mul_le_mul_right _ (odt qq215 : (l0.length : Int).toNat ≤ 17592186044416)) (by omega)) (Below.refl _ _) (Nat.le_refl _) ?_;intro v242 w4 ho5 hb hg_ hnew_;clear hg_ hnew_;(first | rw [← Ny241.out] at ho5 | (simp only [Int.reduceToNat] at ho5;rw [← Ny241.out] at ho5));have HO243:=am (Kd.R_lower ho5 (below_size qq140));replace HB:=am (below_step qq140 hb);clear hb ho5))
   go_loopg [4] k (fun kq v4 w' => ∃ (x3_1 : List (S76)) (x4_1 : Int),v4 = .int .i64 x4_1 ∧ Aside0 (laws_toLegS.l0 kq l0 x3_1 x4_1 = some r) ∧ Aside0 (kq ≤ k) ∧ Aside0 (Kd.R k76 76 w' w.heap.size (fun _ => True) v242 x3_1) ∧ Aside0 (Below w.heap.size w w'))
   case atStart => exact ⟨(y241),(0),qq217,H',⟨Nat.le_refl _⟩,⟨by (with_reducible repeat (first | apply kA | apply kN | apply kD));exact HO243.out⟩,⟨qq140⟩⟩
   case round =>
    clear H'
    try clear c2
    try clear c2b0
    try clear c2b1
    try clear p2
    try clear c3
    try clear c3b0
    try clear c3b1
    try clear c5
    obtain ⟨x3_1,x4_1,rfl,HA,HK1,HO_3,HB⟩:=hrel
    cases gk with
    | zero => exact absurd HA.out (by simp [laws_toLegS.l0])
    | succ k1 =>
     have H:=HA.out;clear HA;simp only [laws_toLegS.l0] at H
     by_cases c6 : x4_1 < (l0.length : Int)
     ·rw [if_pos c6] at H;have c6b0 : decide (x4_1 < (l0.length : Int)) = true:=decide_eq_true c6;clear c6
      by_cases c7 : 0 ≤ x4_1
      ·rw [if_pos c7] at H;have c7b0 : decide (0 ≤ x4_1) = true:=decide_eq_true c7;clear c7;replace H:=bS.mp H;obtain ⟨⟨t245,t246⟩,A80,H⟩:=H;replace H : (if x4_1 < (x3_1.length : Int) then (laws_toLegS.l0 k1 l0 (x3_1.set (x4_1 : Int).toNat (⟨t245,t246⟩ : S76)) (wrap64 (x4_1 + 1))) else (none)) = some r:=H;have A8:=am A80;clear A80
       by_cases c9 : x4_1 < (x3_1.length : Int)
       ·rw [if_pos c9] at H;have c9b0 : decide (x4_1 < (x3_1.length : Int)) = true:=decide_eq_true c9;clear c9;obtain ⟨y247,hy247⟩ : ∃ y_ : List (S76),y_ = (x3_1.set (x4_1 : Int).toNat (⟨t245,t246⟩ : S76)):=⟨_,rfl⟩
        replace H : (laws_toLegS.l0 k1 l0 y247 (wrap64 (x4_1 + 1))) = some r:=by first | (rw [hy247];with_reducible exact H) | (have H2_:=(Option.bind_some _ _).symm.trans H;rw [hy247];with_reducible exact H2_) | (have H2_:=(Option.bind_some _ _).symm.trans H;with_reducible exact H2_) | with_reducible exact H | (rw [hy247];exact H) | exact H
        have Ny247:=am hy247;clear hy247;have H':=am H;clear H;have p244 : 0 ≤ (x4_1 : Int):=odt qq215;have q244 : x4_1 < (l0.length : Int):=odt qq215;obtain ⟨ad244,e244,hx244_0,hx244_1⟩:=at_T130 HR0.out x4_1 p244 q244
        cases e244
        replace hx244_0:=(ct HB.out hx244_0 :)
        replace hx244_1:=(ct HB.out hx244_1 :)
        replace p244:=eq_true p244;replace q244:=eq_true q244;go_wp2_with (first | ((with_reducible refine gate_callee (f:=107) rfl ?_);refine goesL_ (some 20) rfl rfl Try.func107 (by kernel_rfl) rfl #[.agg #[.int .i64 ((rd_T130 l0 x4_1).f0),.int .i64 ((rd_T130 l0 x4_1).f1)]] rfl qq112 ?_;(with_reducible refine (laws_toLeg.calls ((rd_T130 l0 x4_1).f0) ((rd_T130 l0 x4_1).f1) t245 t246 _ A8.out).mono ?_);rintro e w11 ⟨rfl,hb⟩;refine ⟨_,rfl,?_⟩;replace HO_3:=am (Kd.R_below qq209 hb);replace HB:=am (below_step qq140 hb);(try clear hb);(try clear hb2);(try clear hk);(try clear hi);have p10 : 0 ≤ (x4_1 : Int):=odt qq215;have q10 : (x4_1 : Int) < ((x3_1.length : Int) : Int):=odt qq215;obtain ⟨go10,co10,eo10,gb10,gl10,cl10,HG10⟩:=Kd.R_form HO_3.out (by omega);(first | cases eo10 | (injection eo10 with ea_ en_ ec_;(first | subst ea_ | (injection ea_ with ea_;subst ea_));subst ec_;clear en_));have GB10:=am gb10;have GG10:=am HG10;clear gb10 gl10 HG10;obtain ⟨ce10,hcl10,hM10,hcc10,hfr10⟩:=Kd.R_elem HO_3.out z76 (x4_1 : Int) p10 q10;obtain rfl:=k76_openM hM10;have hx10_0 : w11.cell? ⟨go10,(x4_1 : Int).toNat * 2,none⟩ = some (.int .i64 ((rd_T76 x3_1 x4_1).f0)):=hcc10 0 _ rfl;have hx10_1 : w11.cell? ⟨go10,(x4_1 : Int).toNat * 2 + 1,none⟩ = some (.int .i64 ((rd_T76 x3_1 x4_1).f1)):=hcc10 1 _ rfl;have hf10_0 : w11.frozen? ⟨go10,(x4_1 : Int).toNat * 2,none⟩ = false:=hfr10 0;have hf10_1 : w11.frozen? ⟨go10,(x4_1 : Int).toNat * 2 + 1,none⟩ = false:=hfr10 1;clear hcl10 hcc10 hfr10;(try clear hM10);replace p10:=eq_true p10;replace q10:=eq_true q10;have HX12:=am (show Kd.R k76 76 w11 w.heap.size (fun _ => True) (.slice (some ⟨go10,0,none⟩) x3_1.length co10) x3_1 from qq209);obtain ⟨ce12,hcl12,hM12,hcc12,hfr12⟩:=Kd.R_elem HX12.out z76 (x4_1 : Int) (odt qq215) qq33;obtain rfl:=k76_openM hM12;have HP12:=Kd.R_seg HX12.out (x4_1 : Int) (odt qq215) qq33 (seg:=[.int .i64 t245,.int .i64 t246]) (j:=0) hcl12 hcc12 (show 2 ≤ 2 from by decide) (x':=(⟨t245,t246⟩ : S76)) (k76_mkM _ _ _ (⟨t245,t246⟩ : S76) ) (fun _ hk => hk);have hx12_0:=hcc12 0 _ rfl;(try simp only [show (k76).sz = 2 from rfl,Nat.mul_one,Nat.add_zero] at hx12_0);have hf12_0:=hfr12 0;(try simp only [show (k76).sz = 2 from rfl,Nat.mul_one,Nat.add_zero] at hf12_0);have hx12_1:=hcc12 1 _ rfl;(try simp only [show (k76).sz = 2 from rfl,Nat.mul_one,Nat.add_zero] at hx12_1);have hf12_1:=hfr12 1;(try simp only [show (k76).sz = 2 from rfl,Nat.mul_one,Nat.add_zero] at hf12_1);clear hcl12 hcc12 hfr12 hM12) | ((with_reducible refine gate_store (t:=76) (p:=21) rfl ?_);refine store_event (t:=76) (p:=21) (v:=?vo_w13) (w1:=((w11.setCell ⟨go10,(x4_1 : Int).toNat * 2,none⟩ (.int .i64 t245)).setCell ⟨go10,(x4_1 : Int).toNat * 2 + 1,none⟩ (.int .i64 t246))) ?hg ?ho ?hn ?hr ?_;(case ho => rfl);(case hg => rfl);(case hn => rfl);(case hr => exact qq219);intro w13 hw;have hg : w11.grownBy w13 (some go10):=(by rw [hw];exact HP12.2);have hp_ : Kd.R k76 76 w13 w.heap.size (fun _ => True) (.slice (some ⟨go10,0,none⟩) x3_1.length co10) y247:=(by rw [hw,Ny247.out];exact HP12.1);clear HP12;replace HO_3:=am (hp_);replace HB:=am ((by rw [hw];exact below_set (below_set (HB.out) GB10.out) GB10.out : Below w.heap.size w w13));clear hg hw hp_))
        go_roundg k1
        case measure => have:=HK1.out;omega
        case rel => exact ⟨(y247),(wrap64 (x4_1 + 1)),qq217,H',⟨qq238⟩,⟨qq209⟩,⟨qq140⟩⟩
       ·rw [if_neg c9] at H;exact absurd H (by simp)
      ·rw [if_neg c7] at H;exact absurd H (by simp)
     ·rw [if_neg c6] at H;have c6b0 : decide (x4_1 < (l0.length : Int)) = false:=decide_eq_false c6;clear c6;obtain rfl:=Option.some.inj H;go_wp2
      go_ret
      exact ⟨_,qq170,qq209,qq140⟩
  ·rw [if_neg c3] at H;exact absurd H (by simp)
 ·rw [if_neg c2] at H;exact absurd H (by simp)

/-! ### laws_eqIntS: function 62 -/
def laws_eqIntS.l0 : Nat → List Int → List Int → Int → Option (Bool)
 | 0,_,_,_ => none
 | k + 1,x0,x1,x5 => if x5 < (x0.length : Int) then (if 0 ≤ x5 then (if x5 < (x1.length : Int) then (if (rd x0 x5) = (rd x1 x5) then (laws_eqIntS.l0 k x0 x1 (wrap64 (x5 + 1))) else (some false)) else (none)) else (none)) else (some true)
def laws_eqIntS.f (k : Nat) (l0 : List Int) (l1 : List Int) : Option (Bool) := if (l0.length : Int) = (l1.length : Int) then (laws_eqIntS.l0 k l0 l1 0) else (some false)
theorem laws_eqIntS.mono_l : ∀ k, (∀ y0 y1 y2, LeO (laws_eqIntS.l0 k y0 y1 y2) (laws_eqIntS.l0 (k + 1) y0 y1 y2))
 | 0 => fun _ _ _ r h => by simp [laws_eqIntS.l0] at h
 | k + 1 => by
  have ih0:=laws_eqIntS.mono_l k
  ·intro y0 y1 y2
   unfold laws_eqIntS.l0
   repeat' first
   | (with_reducible exact ih0 _ _ _)
   | (with_reducible exact LeO.refl _)
   | (with_reducible exact LeO.none _)
   | (with_reducible refine LeO.ite ?_ ?_)
   | (with_reducible refine LeO.bind ?_ (fun _ => ?_))
   | exact ih0 _ _ _
   | exact LeO.none _
   | refine LeO.ite ?_ ?_
   | refine LeO.bind ?_ (fun _ => ?_)
theorem laws_eqIntS.mono : ∀ a0 a1 k, LeO (laws_eqIntS.f k a0 a1) (laws_eqIntS.f (k + 1) a0 a1) := by
 intro a0 a1 k
 have ih0:=laws_eqIntS.mono_l k
 unfold laws_eqIntS.f
 repeat' first
   | (with_reducible exact ih0 _ _ _)
   | (with_reducible exact LeO.refl _)
   | (with_reducible exact LeO.none _)
   | (with_reducible refine LeO.ite ?_ ?_)
   | (with_reducible refine LeO.bind ?_ (fun _ => ?_))
   | exact ih0 _ _ _
   | exact LeO.none _
   | refine LeO.ite ?_ ?_
   | refine LeO.bind ?_ (fun _ => ?_)
set_option maxHeartbeats 8000000 in
set_option maxRecDepth 100000 in
theorem laws_eqIntS.calls (k : Nat) (A0 : Option Addr) (c0 : Nat) (l0 : List Int) (A1 : Option Addr) (c1 : Nat) (l1 : List Int) (r : Bool) (w : World) (hr0 : Kd.C (Kd.int .i64) w A0 l0.length l0) (hc0 : l0.length ≤ c0) (hr1 : Kd.C (Kd.int .i64) w A1 l1.length l1) (hc1 : l1.length ≤ c1) (h : laws_eqIntS.f k l0 l1 = some r) :
  Calls Try.prog 62 #[.slice A0 l0.length c0,.slice A1 l1.length c1] w fun e w' => e = .returned (.bool r) ∧ Drawn0 w w':=by
 have HR0:=am hr0;have HC0:=am hc0;clear hr0 hc0;have HR1:=am hr1;have HC1:=am hc1;clear hr1 hc1;have H : (if (l0.length : Int) = (l1.length : Int) then (laws_eqIntS.l0 k l0 l1 0) else (some false)) = some r:=h;clear h
 by_cases c3 : (l0.length : Int) = (l1.length : Int)
 ·rw [if_pos c3] at H;have c3b0 : ((l0.length : Int) == (l1.length : Int)) = true:=beq_iff_eq.mpr c3;have c3b1 : ((l0.length : Int) != (l1.length : Int)) = false:=bne_eq_false_iff_eq.mpr c3;have c3b2 : (l0.length == l1.length) = true:=by first | simpa using c3 | (simp at c3 ⊢;omega)
  clear c3;have H':=am H;clear H
  go_enter Try.func62,Try.ntmps62
  go_wp2
  repeat (go_quiet (fail);try go_wp2)
  go_loopg [5] k (fun kq v5 w' => ∃ (x5_1 : Int),v5 = .int .i64 x5_1 ∧ Aside0 (laws_eqIntS.l0 kq l0 l1 x5_1 = some r) ∧ Aside0 (kq ≤ k) ∧ Drawn0 w w')
  case atStart => exact ⟨(0),qq217,H',⟨Nat.le_refl _⟩,qq214⟩
  case round =>
   clear H'
   try clear c1
   try clear p2
   try clear c3
   try clear c3b0
   try clear c3b1
   try clear c3b2
   obtain ⟨x5_1,rfl,HA,HK1,⟨m1,rfl⟩⟩:=hrel
   cases gk with
   | zero => exact absurd HA.out (by simp [laws_eqIntS.l0])
   | succ k1 =>
    have H:=HA.out;clear HA;simp only [laws_eqIntS.l0] at H
    by_cases c4 : x5_1 < (l0.length : Int)
    ·rw [if_pos c4] at H;have c4b0 : decide (x5_1 < (l0.length : Int)) = true:=decide_eq_true c4;clear c4
     by_cases c5 : 0 ≤ x5_1
     ·rw [if_pos c5] at H;have c5b0 : decide (0 ≤ x5_1) = true:=decide_eq_true c5;clear c5
      by_cases c6 : x5_1 < (l1.length : Int)
      ·rw [if_pos c6] at H;have c6b0 : decide (x5_1 < (l1.length : Int)) = true:=decide_eq_true c6;clear c6
       by_cases c7 : (rd l0 x5_1) = (rd l1 x5_1)
       ·rw [if_pos c7] at H;have c7b0 : ((rd l0 x5_1) == (rd l1 x5_1)) = true:=beq_iff_eq.mpr c7;have c7b1 : ((rd l0 x5_1) != (rd l1 x5_1)) = false:=bne_eq_false_iff_eq.mpr c7;clear c7;have H':=am H;clear H;have p248 : 0 ≤ (x5_1 : Int):=odt qq215;have q248 : x5_1 < (l0.length : Int):=odt qq215;obtain ⟨ad248,e248,hx248_0⟩:=Kd.at_int HR0.out x5_1 p248 q248
        cases e248
        replace p248:=eq_true p248;replace q248:=eq_true q248;have p249 : 0 ≤ (x5_1 : Int):=odt qq215;have q249 : x5_1 < (l1.length : Int):=odt qq215;obtain ⟨ad249,e249,hx249_0⟩:=Kd.at_int HR1.out x5_1 p249 q249
        cases e249
        replace p249:=eq_true p249;replace q249:=eq_true q249;go_wp2
        repeat (go_quiet (fail);try go_wp2)
        go_roundg k1
        case measure => have:=HK1.out;omega
        case rel => exact ⟨(wrap64 (x5_1 + 1)),qq217,H',⟨qq238⟩,qq214⟩
       ·rw [if_neg c7] at H;have c7b0 : ((rd l0 x5_1) == (rd l1 x5_1)) = false:=beq_eq_false_iff_ne.mpr c7;have c7b1 : ((rd l0 x5_1) != (rd l1 x5_1)) = true:=bne_iff_ne.mpr c7;obtain rfl:=Option.some.inj H;have p248 : 0 ≤ (x5_1 : Int):=odt qq215;have q248 : x5_1 < (l0.length : Int):=odt qq215;obtain ⟨ad248,e248,hx248_0⟩:=Kd.at_int HR0.out x5_1 p248 q248
        cases e248
        replace p248:=eq_true p248;replace q248:=eq_true q248;have p249 : 0 ≤ (x5_1 : Int):=odt qq215;have q249 : x5_1 < (l1.length : Int):=odt qq215;obtain ⟨ad249,e249,hx249_0⟩:=Kd.at_int HR1.out x5_1 p249 q249
        cases e249
        replace p249:=eq_true p249;replace q249:=eq_true q249;go_wp2
        repeat (go_quiet (fail);try go_wp2)
        go_ret
        exact ⟨qq217,qq214⟩
      ·rw [if_neg c6] at H;exact absurd H (by simp)
     ·rw [if_neg c5] at H;exact absurd H (by simp)
    ·rw [if_neg c4] at H;have c4b0 : decide (x5_1 < (l0.length : Int)) = false:=decide_eq_false c4;clear c4;obtain rfl:=Option.some.inj H;go_wp2
     repeat (go_quiet (fail);try go_wp2)
     go_ret
     exact ⟨qq217,qq214⟩
 ·rw [if_neg c3] at H;have c3b0 : ((l0.length : Int) == (l1.length : Int)) = false:=beq_eq_false_iff_ne.mpr c3;have c3b1 : ((l0.length : Int) != (l1.length : Int)) = true:=bne_iff_ne.mpr c3;have c3b2 : (l0.length == l1.length) = false:=by first | simpa using c3 | (simp at c3 ⊢;omega)
  obtain rfl:=Option.some.inj H
  go_enter Try.func62,Try.ntmps62
  go_wp2
  repeat (go_quiet (fail);try go_wp2)
  go_ret
  exact ⟨qq217,qq214⟩

end Go.Proofs.Ytcbkknpmeknppaa.PFnExactPlanCells
