/- Contracts of functions that the law FnPlans reaches, for its row: lines that the kit's printer wrote for this claim, set shorter by a program of this session (own.py), and what fell in Lean proved anew. Lean checks them. -/
import Derived.Test.YtcbkknpmeknppaaSFnPlansx0
import Derived.Test.YtcbkknpmeknppaaSFnPlansx3
import Derived.Test.YtcbkknpmeknppaaSFnPlansx13
namespace Go.Proofs.Ytcbkknpmeknppaa.PFnPlans
open Go.RowKit Go.Proofs.YtcbkknpmeknppaaW.PrintWords Go.Proofs.YtcbkknpmeknppaaW.PrintLast Go.Proofs.YtcbkknpmeknppaaW.PrintMore
attribute [local go_sem] max2_int min2_int max_two min_two max_three min_three max_four min_four   -- for this text's walks alone
set_option linter.unusedVariables false
set_option linter.unusedSimpArgs false

/-! ### impl_PlanCells: function 45 -/
mutual
def impl_PlanCells.l0 : Nat → Int → List Int → List (S76) → Int → Int → Int → Int → List Int → Option (List Int)
 | 0,_,_,_,_,_,_,_,_ => none
 | k + 1,x1,x7,x17,x18,x19,x442000,x442001,x442002 => if x19 < x18 then (if 0 ≤ x19 then (if x19 < (x17.length : Int) then ((impl_WayTo.f k x442000 x442001 x442002 x1 ((rd_T76 x17 x19).f0)).bind fun t448 => (if 1 ≤ (t448.length : Int) then ((some (t448.drop 1 : List Int)).bind fun y451 => (if x7.length + y451.length < 17592186044416 then (impl_PlanCells.l1 k (x7 ++ y451) x17 x18 x19 ((rd_T76 x17 x19).f1) 0 x442000 x442001 x442002 ((rd_T76 x17 x19).f0) ((rd_T76 x17 x19).f1)) else (none))) else (none))) else (none)) else (none)) else (some x7)
def impl_PlanCells.l1 : Nat → List Int → List (S76) → Int → Int → Int → Int → Int → Int → List Int → Int → Int → Option (List Int)
 | 0,_,_,_,_,_,_,_,_,_,_,_ => none
 | k + 1,x7,x17,x18,x19,x32,x33,x442000,x442001,x442002,x448000,x448001 => if x33 < x32 then (if x7.length < 17592186044416 then (impl_PlanCells.l1 k (x7 ++ [x448000]) x17 x18 x19 x32 (wrap64 (x33 + 1)) x442000 x442001 x442002 x448000 x448001) else (none)) else (impl_PlanCells.l0 k x448000 x7 x17 x18 (wrap64 (x19 + 1)) x442000 x442001 x442002)
end
def impl_PlanCells.f (k : Nat) (a0_0 : Int) (a0_1 : Int) (l0_2 : List Int) (a1 : Int) (l2 : List (S76)) : Option (List Int) := (impl_IsPlan.f k a0_0 a0_1 l0_2 a1 l2).bind fun t442 => (if t442 = true then (impl_PlanCells.l0 k a1 (([a1] : List Int)) l2 (l2.length : Int) 0 a0_0 a0_1 l0_2) else (some ([] : List Int)))
set_option maxHeartbeats 8000000 in
set_option maxRecDepth 100000 in
theorem impl_PlanCells.calls (k : Nat) (a0_0 : Int) (a0_1 : Int) (A0_2 : Option Addr) (c0_2 : Nat) (l0_2 : List Int) (a1 : Int) (A2 : Option Addr) (c2 : Nat) (l2 : List (S76)) (r : List Int) (w : World) (hr0_2 : Kd.C (Kd.int .i64) w A0_2 l0_2.length l0_2) (hc0_2 : l0_2.length ≤ c0_2) (hr2 : Kd.C k76 w A2 l2.length l2) (hc2 : l2.length ≤ c2) (h : impl_PlanCells.f k a0_0 a0_1 l0_2 a1 l2 = some r) :
  Calls Try.prog 45 #[.agg #[.int .i64 a0_0,.int .i64 a0_1,.slice A0_2 l0_2.length c0_2],.int .i64 a1,.slice A2 l2.length c2] w fun e w' => ∃ v0_ : Value,e = .returned (v0_) ∧ Kd.R (Kd.int .i64) 3 w' w.heap.size (fun _ => True) v0_ r ∧ Below w.heap.size w w':=by
 have hu51:=Try.underlying51;have hu76:=Try.underlying76;have HR0_2:=am hr0_2;have HC0_2:=am hc0_2;clear hr0_2 hc0_2;have HR2:=am hr2;have HC2:=am hc2;clear hr2 hc2;have HB:=am (Below.refl w.heap.size w);have H : ((impl_IsPlan.f k a0_0 a0_1 l0_2 a1 l2).bind fun t442 => (if t442 = true then (impl_PlanCells.l0 k a1 (([a1] : List Int)) l2 (l2.length : Int) 0 a0_0 a0_1 l0_2) else (some ([] : List Int)))) = some r:=h;clear h;replace H:=bS.mp H;obtain ⟨t442,A40,H⟩:=H;replace H : (if t442 = true then (impl_PlanCells.l0 k a1 (([a1] : List Int)) l2 (l2.length : Int) 0 a0_0 a0_1 l0_2) else (some ([] : List Int))) = some r:=H;have A4:=am A40;clear A40
 by_cases c5 : t442 = true
 ·subst c5;have H1 : (impl_PlanCells.l0 k a1 (([a1] : List Int)) l2 (l2.length : Int) 0 a0_0 a0_1 l0_2) = some r:=by rw [if_pos rfl] at H;exact H
  clear H;have H:=H1;clear H1;obtain ⟨y443,hy443⟩ : ∃ y_ : List Int,y_ = (([a1] : List Int)):=⟨_,rfl⟩
  replace H : (impl_PlanCells.l0 k a1 y443 l2 (l2.length : Int) 0 a0_0 a0_1 l0_2) = some r:=by first | (rw [hy443];with_reducible exact H) | (have H2_:=(Option.bind_some _ _).symm.trans H;rw [hy443];with_reducible exact H2_) | (have H2_:=(Option.bind_some _ _).symm.trans H;with_reducible exact H2_) | with_reducible exact H | (rw [hy443];exact H) | exact H
  have Ny443:=am hy443;clear hy443;have H':=am H;clear H
  go_enter Try.func45,Try.ntmps45
  go_wp2_with (first | ((with_reducible refine gate_dst (N:=3) rfl ?_);refine box_event ?hg (N:=3) ?hd (cs:=#[.int .i64 a0_0,.int .i64 a0_1,.slice A0_2 l0_2.length c0_2]) (t:=51) ?hr ?_;(case hd => rfl);(case hg => rfl);(case hr => exact qq296);intro gb441 hg w6 hbox hb;have BK441:=am (hbox);have GW441:=am ((qq149 : w.heap.size ≤ gb441));have GE441:=am ((qq149 : w.heap.size ≤ gb441));replace HB:=am (below_step qq197 hb);clear hb hbox hg;obtain ⟨hcz7_0,hcz7_1,hcz7_2,hfz7_0,hfz7_1,hfz7_2⟩:=bcl3 BK441.out) | ((with_reducible refine gate_callee (f:=46) rfl ?_);refine goesL_ (some 13) rfl rfl Try.func46 (by kernel_rfl) rfl #[.agg #[.int .i64 a0_0,.int .i64 a0_1,.slice A0_2 l0_2.length c0_2],.int .i64 a1,.slice A2 l2.length c2] rfl qq177 ?_;(with_reducible refine (impl_IsPlan.calls k a0_0 a0_1 _ _ l0_2 a1 _ _ l2 true _ ?side1 ?side2 ?side3 ?side4 A4.out).mono ?_);(case side1 => exact qq131);(case side2 => exact qq312);(case side3 => exact qq135);(case side4 => exact HC2.out);rintro e w8 ⟨rfl,hb⟩;refine ⟨_,rfl,?_⟩;replace BK441:=am (blk_below (g:=gb441) (o:=.cells #[.int .i64 a0_0,.int .i64 a0_1,.slice A0_2 l0_2.length c0_2] 51 (0,0)) qq222 hb);replace HB:=am (below_step qq159 hb);(try clear hb);(try clear hb2);(try clear hk);(try clear hi)) | ((with_reducible refine gate_dst (N:=16) rfl ?_);refine Kd.R_lit (Kd.int .i64) _ 3 ?hg (N:=16) ?hd (xs:=([a1] : List Int)) (inner:=[.int .i64 a1]) (ok:=fun _ => True) (okp:=fun _ => True) ?hr ?hp (fun _ hk => hk) trivial (Below.refl _ _) (Nat.le_refl _) (by simp) ?_;(case hd => rfl);(case hg => rfl);(case hr => exact qq296);(case hp => exact qq249);intro v444 w9 ho10 hb hg_ hnew_;clear hg_ hnew_;(first | rw [← Ny443.out] at ho10 | (simp only [Int.reduceToNat] at ho10;rw [← Ny443.out] at ho10));have HO445:=am (Kd.R_lower ho10 (below_size qq159));replace BK441:=am (blk_below (g:=gb441) (o:=.cells #[.int .i64 a0_0,.int .i64 a0_1,.slice A0_2 l0_2.length c0_2] 51 (0,0)) qq222 hb);replace HB:=am (below_step qq159 hb);clear hb ho10))
  go_loopg [1,7,19] k (fun kq v1 v7 v19 w' => ∃ (x1_1 : Int) (x7_1 : List Int) (x19_1 : Int),v1 = .int .i64 x1_1 ∧ v19 = .int .i64 x19_1 ∧ Aside0 (impl_PlanCells.l0 kq x1_1 x7_1 l2 (l2.length : Int) x19_1 a0_0 a0_1 l0_2 = some r) ∧ Aside0 (kq ≤ k) ∧ Aside0 (Kd.R (Kd.int .i64) 3 w' w.heap.size (fun _ => True) v7 x7_1) ∧ Aside0 (w'.heap[gb441]? = some (.cells #[.int .i64 a0_0,.int .i64 a0_1,(.slice A0_2 l0_2.length c0_2)] 51 (0,0))) ∧ Aside0 (Below w.heap.size w w'))
  case atStart => exact ⟨(a1),(y443),(0),qq295,qq295,H',⟨Nat.le_refl _⟩,⟨by (with_reducible repeat (first | apply kA | apply kN | apply kD));exact HO445.out⟩,⟨qq222⟩,⟨qq159⟩⟩
  case round =>
   clear H'
   try clear c2
   try clear p2
   try clear c4
   try clear c5
   try clear hcz7_0
   try clear hcz7_1
   try clear hcz7_2
   try clear hfz7_0
   try clear hfz7_1
   try clear hfz7_2
   obtain ⟨x1_1,x7_1,x19_1,rfl,rfl,HA,HK1,HO_7,BK441,HB⟩:=hrel
   cases gk with
   | zero => exact absurd HA.out (by simp [impl_PlanCells.l0])
   | succ k1 =>
    have H:=HA.out;clear HA;simp only [impl_PlanCells.l0] at H
    by_cases c11 : x19_1 < (l2.length : Int)
    ·rw [if_pos c11] at H;have c11b0 : decide (x19_1 < (l2.length : Int)) = true:=decide_eq_true c11;clear c11
     by_cases c12 : 0 ≤ x19_1
     ·rw [if_pos c12] at H;have c12b0 : decide (0 ≤ x19_1) = true:=decide_eq_true c12;clear c12
      by_cases c13 : x19_1 < (l2.length : Int)
      ·rw [if_pos c13] at H;have c13b0 : decide (x19_1 < (l2.length : Int)) = true:=decide_eq_true c13;clear c13;replace H:=bS.mp H;obtain ⟨t448,A140,H⟩:=H;replace H : (if 1 ≤ (t448.length : Int) then ((some (t448.drop 1 : List Int)).bind fun y451 => (if x7_1.length + y451.length < 17592186044416 then (impl_PlanCells.l1 k1 (x7_1 ++ y451) l2 (l2.length : Int) x19_1 ((rd_T76 l2 x19_1).f1) 0 a0_0 a0_1 l0_2 ((rd_T76 l2 x19_1).f0) ((rd_T76 l2 x19_1).f1)) else (none))) else (none)) = some r:=H;have A14:=am A140;clear A140
       by_cases c15 : 1 ≤ (t448.length : Int)
       ·rw [if_pos c15] at H;have c15b0:=eq_true c15;have c15b1 : decide (1 ≤ (t448.length : Int)) = true:=decide_eq_true c15;clear c15;obtain ⟨y451,hy451⟩ : ∃ y_ : List Int,y_ = (t448.drop 1):=⟨_,rfl⟩
        replace H : (if x7_1.length + y451.length < 17592186044416 then (impl_PlanCells.l1 k1 (x7_1 ++ y451) l2 (l2.length : Int) x19_1 ((rd_T76 l2 x19_1).f1) 0 a0_0 a0_1 l0_2 ((rd_T76 l2 x19_1).f0) ((rd_T76 l2 x19_1).f1)) else (none)) = some r:=by first | (rw [hy451];with_reducible exact H) | (have H2_:=(Option.bind_some _ _).symm.trans H;rw [hy451];with_reducible exact H2_) | (have H2_:=(Option.bind_some _ _).symm.trans H;with_reducible exact H2_) | with_reducible exact H | (rw [hy451];exact H) | exact H
        have Ny451:=am hy451;clear hy451
        by_cases c16 : x7_1.length + y451.length < 17592186044416
        ·rw [if_pos c16] at H;have LMc16:=am c16;clear c16;obtain ⟨y455,hy455⟩ : ∃ y_ : List Int,y_ = (x7_1 ++ y451):=⟨_,rfl⟩
         replace H : (impl_PlanCells.l1 k1 y455 l2 (l2.length : Int) x19_1 ((rd_T76 l2 x19_1).f1) 0 a0_0 a0_1 l0_2 ((rd_T76 l2 x19_1).f0) ((rd_T76 l2 x19_1).f1)) = some r:=by first | (rw [hy455];with_reducible exact H) | (have H2_:=(Option.bind_some _ _).symm.trans H;rw [hy455];with_reducible exact H2_) | (have H2_:=(Option.bind_some _ _).symm.trans H;with_reducible exact H2_) | with_reducible exact H | (rw [hy455];exact H) | exact H
         have Ny455:=am hy455;clear hy455;have H':=am H;clear H;have p446 : 0 ≤ (x19_1 : Int):=odt qq293;have q446 : x19_1 < (l2.length : Int):=odt qq293;obtain ⟨ad446,e446,hx446_0,hx446_1⟩:=at_T76 HR2.out x19_1 p446 q446
         cases e446
         replace hx446_0:=(ct HB.out hx446_0 :)
         replace hx446_1:=(ct HB.out hx446_1 :)
         replace p446:=eq_true p446;replace q446:=eq_true q446;go_wp2_with (first | ((with_reducible refine gate_dst (N:=9) rfl ?_);refine box_event ?hg (N:=9) ?hd (cs:=#[.int .i64 0,.int .i64 0]) (t:=76) ?hr ?_;(case hd => rfl);(case hg => rfl);(case hr => exact qq296);intro gb447 hg w17 hbox hb;replace HO_7:=am (Kd.R_below qq283 hb);have BK447:=am (hbox);have GW447:=am ((qq113 : w.heap.size ≤ gb447));have GE447:=am ((qq113 : w.heap.size ≤ gb447));replace HB:=am (below_step qq159 hb);have NB441_447:=am ((by rw [hg];exact Nat.ne_of_lt (blk_lt (g:=gb441) (o:=.cells #[.int .i64 a0_0,.int .i64 a0_1,.slice A0_2 l0_2.length c0_2] 51 (0,0)) qq222) : gb441 ≠ gb447));have NB447_441:=am ((by rw [hg];exact Nat.ne_of_gt (blk_lt (g:=gb441) (o:=.cells #[.int .i64 a0_0,.int .i64 a0_1,.slice A0_2 l0_2.length c0_2] 51 (0,0)) qq222) : gb447 ≠ gb441));replace BK441:=am (blk_below (g:=gb441) (o:=.cells #[.int .i64 a0_0,.int .i64 a0_1,.slice A0_2 l0_2.length c0_2] 51 (0,0)) qq222 hb);clear hb hbox hg;have hnb18:=NB447_441.out;have hnc18:=NB441_447.out;obtain ⟨hcz19_0,hcz19_1,hfz19_0,hfz19_1⟩:=bcl2 BK447.out;obtain ⟨hcz20_0,hcz20_1,hcz20_2,hfz20_0,hfz20_1,hfz20_2⟩:=bcl3 BK441.out) | ((with_reducible refine gate_callee (f:=97) rfl ?_);refine goesL_ (some 28) rfl rfl Try.func97 (by kernel_rfl) rfl #[.agg #[.int .i64 a0_0,.int .i64 a0_1,.slice A0_2 l0_2.length c0_2],.int .i64 x1_1,.int .i64 ((rd_T76 l2 x19_1).f0)] rfl qq177 ?_;(with_reducible refine (impl_WayTo.calls k1 a0_0 a0_1 _ _ l0_2 x1_1 ((rd_T76 l2 x19_1).f0) t448 _ ?side1 ?side2 A14.out).mono ?_);(case side1 => exact Kd.C_below HR0_2.out qq118);(case side2 => exact qq312);rintro e w21 ⟨v449,rfl,ho0,hb⟩;refine ⟨_,rfl,?_⟩;have HO450:=am (Kd.R_lower (Kd.R_new' ho0 (Kd.R_lt qq23)) (below_size qq118));replace HO_7:=am (Kd.R_elder' qq23 (Kd.R_base ho0) hb);replace BK441:=am (blk_below (g:=gb441) (o:=.cells #[.int .i64 a0_0,.int .i64 a0_1,.slice A0_2 l0_2.length c0_2] 51 (0,0)) (by (with_reducible repeat (first | refine dN ?_ _ | refine dD ?_ | refine dA ?_ _));refine blk_far ?_ NB441_447.out _;(with_reducible repeat (first | refine dN ?_ _ | refine dD ?_ | refine dA ?_ _));refine blk_far ?_ NB441_447.out _;(with_reducible repeat (first | refine dN ?_ _ | refine dD ?_ | refine dA ?_ _));exact BK441.out) hb);replace BK447:=am (blk_below (g:=gb447) (o:=.cells #[.int .i64 ((rd_T76 l2 x19_1).f0),.int .i64 ((rd_T76 l2 x19_1).f1)] 76 (0,0)) (by (with_reducible repeat (first | refine dN ?_ _ | refine dD ?_ | refine dA ?_ _));refine blk_put (cs:=#[.int .i64 ((rd_T76 l2 x19_1).f0),.int .i64 0]) ?_ 1 _ rfl;(with_reducible repeat (first | refine dN ?_ _ | refine dD ?_ | refine dA ?_ _));refine blk_put (cs:=#[.int .i64 0,.int .i64 0]) ?_ 0 _ rfl;(with_reducible repeat (first | refine dN ?_ _ | refine dD ?_ | refine dA ?_ _));exact BK447.out) hb);replace HB:=am (below_step qq118 hb);(try clear hb);(try clear hb2);(try clear hk);(try clear hi);(try clear ho0);obtain ⟨Ao23,co23,eo23⟩:=Kd.R_slice HO450.out;subst eo23;have q22 : (1 : Int) ≤ ((t448.length : Int) : Int):=odt qq293;obtain ⟨i022,hi022,_,hsz22,_⟩:=info_parts info3;have hroom22 : t448.length ≤ co23:=(Kd.R_reads' HO450.out).2.1;have hC22 : Kd.C (Kd.int .i64) _ Ao23 t448.length t448:=(Kd.R_reads' HO450.out).2.2;have hcut22:=cut_from (P:=Try.prog) 49 3 .i64 Try.underlying49 hi022 1 hsz22 Ao23 t448.length co23 1 (by omega) q22;have hr22:=Kd.C_drop (m:=(1 : Int).toNat) (c:=co23) hC22 (by omega) hroom22;obtain ⟨A22,hA22⟩ : ∃ A1,A1 = (if co23 = (1 : Int).toNat then Ao23 else (Ao23 : Option Addr).map (·.add ((1 : Int).toNat * 1))):=⟨_,rfl⟩;obtain ⟨c22,hc22⟩ : ∃ c1,c1 = co23 - (1 : Int).toNat:=⟨_,rfl⟩;have hy22 : y451.length = t448.length - (1 : Int).toNat:=(by rw [Ny451.out,List.length_drop] <;> omega);rw [show (t448).drop (1 : Int).toNat = y451 from Ny451.out.symm] at hr22;replace hr22 : Kd.C (Kd.int .i64) _ A22 y451.length y451:=(by rw [hA22];exact hr22);rw [← hy22,← hA22,← hc22] at hcut22;have HR454:=am hr22;have HC454:=am (show y451.length ≤ c22 from by rw [hy22,hc22];exact Nat.sub_le_sub_right hroom22 _);clear hr22 hC22 hroom22 hi022 hsz22 hc22;have KY22:=am hy22;have KA22:=am hA22;clear hy22 hA22;have KL22:=am (show 1 ≤ t448.length from by omega);replace q22:=eq_true q22) | ((with_reducible refine gate_builtin (b:=.append) (xs:=#[.tmp 23,.tmp 29]) rfl ?_);at_builtin;refine Kd.R_append_rows (Kd.int .i64) (w0:=w) w.heap.size rfl (.tmp 23) (.tmp 29) 49 3 (.int .i64 0) 8 rfl Try.underlying49 info3 rfl (by decide) (by omega) u7 x7_1 y451 _ _ _ (fun k_ => some k_ ≠ (.slice Ao23 t448.length co23 : Value).ownBlock) (fun _ => False) rfl rfl ?aO ?aR (fun _ _ h => h) (fun _ h => h.elim) ?aF ?aB ?aS ?aL ?_;(case aR => repeat (first | exact (by repeat (first | (with_reducible exact HR454.out) | (with_reducible refine cA ?_ _) | (with_reducible refine cN ?_ _) | (with_reducible refine cD ?_) | exact HR454.out)) | (with_reducible refine cA ?_ _) | (with_reducible refine cN ?_ _) | (with_reducible refine cD ?_)));(case aB => exact qq103);(case aF => exact (fun k_ hk => Kd.fresh' (Kd.R_lt qq267) k_ hk));(case aO => exact qq188);(case aS => exact qq94);(case aL => have:=LMc16.out;omega);intro v456 w24 ho hb hg hat;rw [← Ny455.out] at ho;replace BK441:=am (blk_grown (g:=gb441) (o:=.cells #[.int .i64 a0_0,.int .i64 a0_1,.slice A0_2 l0_2.length c0_2] 51 (0,0)) qq222 hg (Kd.R_ne HO_7.out BK441.out (by decide)));replace BK447:=am (blk_grown (g:=gb447) (o:=.cells #[.int .i64 ((rd_T76 l2 x19_1).f0),.int .i64 ((rd_T76 l2 x19_1).f1)] 76 (0,0)) qq221 hg (Kd.R_ne HO_7.out BK447.out (by decide)));replace HB:=am (hb);replace HR454:=am ((show Kd.C (Kd.int .i64) w24 A22 y451.length y451 from by rw [Ny451.out,KA22.out];exact Kd.C_drop (m:=1) (c:=co23) ((Kd.R_reads' (Kd.R_after (ok:=(fun _ => True)) qq267 hg hat)).2.2) KL22.out ((Kd.R_reads' (Kd.R_after (ok:=(fun _ => True)) qq267 hg hat)).2.1)));replace HO450:=am (Kd.R_after (ok:=(fun _ => True)) qq267 hg hat);have HO457:=am (ho);clear HO_7;clear ho hb hg hat;obtain ⟨hcz25_0,hcz25_1,hfz25_0,hfz25_1⟩:=bcl2 BK447.out))
         go_loopg [7,33] k1 (fun kq v7 v33 w' => ∃ (x7_2 : List Int) (x33_2 : Int),v33 = .int .i64 x33_2 ∧ Aside0 (impl_PlanCells.l1 kq x7_2 l2 (l2.length : Int) x19_1 ((rd_T76 l2 x19_1).f1) x33_2 a0_0 a0_1 l0_2 ((rd_T76 l2 x19_1).f0) ((rd_T76 l2 x19_1).f1) = some r) ∧ Aside0 (kq ≤ k1) ∧ Aside0 (Kd.R (Kd.int .i64) 3 w' w.heap.size (fun _ => True) v7 x7_2) ∧ Aside0 (w'.heap[gb441]? = some (.cells #[.int .i64 a0_0,.int .i64 a0_1,(.slice A0_2 l0_2.length c0_2)] 51 (0,0))) ∧ Aside0 (w'.heap[gb447]? = some (.cells #[.int .i64 ((rd_T76 l2 x19_1).f0),.int .i64 ((rd_T76 l2 x19_1).f1)] 76 (0,0))) ∧ Aside0 (Below w.heap.size w w'))
         case atStart => exact ⟨(y455),(0),qq295,H',⟨Nat.le_refl _⟩,⟨by (with_reducible repeat (first | apply kA | apply kN | apply kD));exact Kd.R_mono HO457.out (fun _ hk => trivial)⟩,⟨qq222⟩,⟨qq221⟩,⟨qq118⟩⟩
         case round =>
          clear H'
          try clear c1
          try clear c2
          try clear p2
          try clear q2
          try clear c4
          try clear p4
          try clear q4
          try clear hx4
          try clear c5
          try clear c9
          try clear c11
          try clear c11b0
          try clear c12
          try clear c12b0
          try clear c13
          try clear c13b0
          try clear c15
          try clear c15b0
          try clear c15b1
          try clear c16
          try clear c18
          try clear c22
          try clear q22
          try clear hcz19_0
          try clear hcz19_1
          try clear hcz20_0
          try clear hcz20_1
          try clear hcz20_2
          try clear hcz25_0
          try clear hcz25_1
          try clear hcz7_0
          try clear hcz7_1
          try clear hcz7_2
          try clear hfz19_0
          try clear hfz19_1
          try clear hfz20_0
          try clear hfz20_1
          try clear hfz20_2
          try clear hfz25_0
          try clear hfz25_1
          try clear hfz7_0
          try clear hfz7_1
          try clear hfz7_2
          try clear hx446_0
          try clear hx446_1
          try clear p2
          try clear p446
          try clear q22
          try clear q446
          obtain ⟨x7_2,x33_2,rfl,HA,HK2,HO_7,BK441,BK447,HB⟩:=hrel
          cases gk with
          | zero => exact absurd HA.out (by simp [impl_PlanCells.l1])
          | succ k2 =>
           have H:=HA.out;clear HA;simp only [impl_PlanCells.l1] at H
           by_cases c26 : x33_2 < ((rd_T76 l2 x19_1).f1)
           ·rw [if_pos c26] at H;have c26b0 : decide (x33_2 < ((rd_T76 l2 x19_1).f1)) = true:=decide_eq_true c26;clear c26
            by_cases c27 : x7_2.length < 17592186044416
            ·rw [if_pos c27] at H;have LMc27:=am c27;clear c27;obtain ⟨y458,hy458⟩ : ∃ y_ : List Int,y_ = (x7_2 ++ [((rd_T76 l2 x19_1).f0)]):=⟨_,rfl⟩
             replace H : (impl_PlanCells.l1 k2 y458 l2 (l2.length : Int) x19_1 ((rd_T76 l2 x19_1).f1) (wrap64 (x33_2 + 1)) a0_0 a0_1 l0_2 ((rd_T76 l2 x19_1).f0) ((rd_T76 l2 x19_1).f1)) = some r:=by first | (rw [hy458];with_reducible exact H) | (have H2_:=(Option.bind_some _ _).symm.trans H;rw [hy458];with_reducible exact H2_) | (have H2_:=(Option.bind_some _ _).symm.trans H;with_reducible exact H2_) | with_reducible exact H | (rw [hy458];exact H) | exact H
             have Ny458:=am hy458;clear hy458;have H':=am H;clear H;have hnb28:=NB447_441.out;have hnc28:=NB441_447.out;obtain ⟨hcz29_0,hcz29_1,hfz29_0,hfz29_1⟩:=bcl2 BK447.out;go_wp2_with (first | ((with_reducible refine gate_builtin (b:=.append) (xs:=#[.tmp 35,.tmp 38]) rfl ?_);at_builtin;refine Kd.R_append (Kd.int .i64) (w0:=w) w.heap.size rfl (.tmp 35) (.tmp 38) 49 3 (.int .i64 0) 8 rfl Try.underlying49 info3 rfl (by decide) (by omega) u7 x7_2 ((rd_T76 l2 x19_1).f0) [.int .i64 ((rd_T76 l2 x19_1).f0)] (fun _ => True) (fun _ => False) rfl rfl ?aP (fun _ hk => hk.elim) ?aF ?aO ?aB ?aS ?aL ?_;(case aP => exact rfl);(case aB => exact qq103);(case aF => exact qq308);(case aO => exact qq251);(case aS => exact qq94);(case aL => have:=LMc27.out;omega);intro v459 w30 ho hb hg hat;rw [← Ny458.out] at ho;replace BK441:=am (blk_grown (g:=gb441) (o:=.cells #[.int .i64 a0_0,.int .i64 a0_1,.slice A0_2 l0_2.length c0_2] 51 (0,0)) qq222 hg (Kd.R_ne HO_7.out BK441.out (by decide)));replace BK447:=am (blk_grown (g:=gb447) (o:=.cells #[.int .i64 ((rd_T76 l2 x19_1).f0),.int .i64 ((rd_T76 l2 x19_1).f1)] 76 (0,0)) qq221 hg (Kd.R_ne HO_7.out BK447.out (by decide)));replace HB:=am (hb);have HO460:=am (ho);clear HO_7;clear ho hb hg hat))
             go_roundg k2
             case measure => have:=HK1.out;have:=HK2.out;omega
             case rel => exact ⟨(y458),(wrap64 (x33_2 + 1)),qq295,H',⟨qq299⟩,⟨by (with_reducible repeat (first | apply kA | apply kN | apply kD));exact HO460.out⟩,⟨qq222⟩,⟨qq221⟩,⟨qq118⟩⟩
            ·rw [if_neg c27] at H;exact absurd H (by simp)
           ·rw [if_neg c26] at H;have c26b0 : decide (x33_2 < ((rd_T76 l2 x19_1).f1)) = false:=decide_eq_false c26;clear c26;have H':=am H;clear H;have hnb31:=NB447_441.out;have hnc31:=NB441_447.out;obtain ⟨hcz32_0,hcz32_1,hfz32_0,hfz32_1⟩:=bcl2 BK447.out;go_wp2
            go_roundg k2
            case measure => have:=HK1.out;have:=HK2.out;omega
            case rel => exact ⟨(((rd_T76 l2 x19_1).f0)),(x7_2),(wrap64 (x19_1 + 1)),qq295,qq295,H',⟨qq299⟩,⟨qq283⟩,⟨qq222⟩,⟨qq118⟩⟩
        ·rw [if_neg c16] at H;exact absurd H (by simp)
       ·rw [if_neg c15] at H;exact absurd H (by simp)
      ·rw [if_neg c13] at H;exact absurd H (by simp)
     ·rw [if_neg c12] at H;exact absurd H (by simp)
    ·rw [if_neg c11] at H;have c11b0 : decide (x19_1 < (l2.length : Int)) = false:=decide_eq_false c11;clear c11;obtain rfl:=Option.some.inj H;go_wp2
     go_ret
     exact ⟨_,qq246,qq283,qq159⟩
 ·replace c5:=Bool.eq_false_iff.mpr c5;subst c5;have H1 : (some ([] : List Int)) = some r:=by rw [if_neg (show ¬ (false = true) by decide)] at H;exact H
  clear H;have H:=H1;clear H1;obtain rfl:=Option.some.inj H
  go_enter Try.func45,Try.ntmps45
  go_wp2_with (first | ((with_reducible refine gate_dst (N:=3) rfl ?_);refine box_event ?hg (N:=3) ?hd (cs:=#[.int .i64 a0_0,.int .i64 a0_1,.slice A0_2 l0_2.length c0_2]) (t:=51) ?hr ?_;(case hd => rfl);(case hg => rfl);(case hr => exact qq296);intro gb441 hg w33 hbox hb;have BK441:=am (hbox);have GW441:=am ((qq149 : w.heap.size ≤ gb441));have GE441:=am ((qq149 : w.heap.size ≤ gb441));replace HB:=am (below_step qq197 hb);clear hb hbox hg;obtain ⟨hcz34_0,hcz34_1,hcz34_2,hfz34_0,hfz34_1,hfz34_2⟩:=bcl3 BK441.out) | ((with_reducible refine gate_callee (f:=46) rfl ?_);refine goesL_ (some 13) rfl rfl Try.func46 (by kernel_rfl) rfl #[.agg #[.int .i64 a0_0,.int .i64 a0_1,.slice A0_2 l0_2.length c0_2],.int .i64 a1,.slice A2 l2.length c2] rfl qq177 ?_;(with_reducible refine (impl_IsPlan.calls k a0_0 a0_1 _ _ l0_2 a1 _ _ l2 false _ ?side1 ?side2 ?side3 ?side4 A4.out).mono ?_);(case side1 => exact qq131);(case side2 => exact qq312);(case side3 => exact qq135);(case side4 => exact HC2.out);rintro e w35 ⟨rfl,hb⟩;refine ⟨_,rfl,?_⟩;replace BK441:=am (blk_below (g:=gb441) (o:=.cells #[.int .i64 a0_0,.int .i64 a0_1,.slice A0_2 l0_2.length c0_2] 51 (0,0)) qq222 hb);replace HB:=am (below_step qq159 hb);(try clear hb);(try clear hb2);(try clear hk);(try clear hi)))
  go_ret
  exact ⟨_,qq246,qq145,qq159⟩

/-! ### impl_PlanDays: function 47 -/
def impl_PlanDays.f (k : Nat) (a0_0 : Int) (a0_1 : Int) (l0_2 : List Int) (a1 : Int) (l2 : List (S76)) : Option (Int) := (impl_PlanCells.f k a0_0 a0_1 l0_2 a1 l2).bind fun t462 => (some (wrap64 ((t462.length : Int) - 1)))
set_option maxHeartbeats 8000000 in
set_option maxRecDepth 100000 in
theorem impl_PlanDays.calls (k : Nat) (a0_0 : Int) (a0_1 : Int) (A0_2 : Option Addr) (c0_2 : Nat) (l0_2 : List Int) (a1 : Int) (A2 : Option Addr) (c2 : Nat) (l2 : List (S76)) (r : Int) (w : World) (hr0_2 : Kd.C (Kd.int .i64) w A0_2 l0_2.length l0_2) (hc0_2 : l0_2.length ≤ c0_2) (hr2 : Kd.C k76 w A2 l2.length l2) (hc2 : l2.length ≤ c2) (h : impl_PlanDays.f k a0_0 a0_1 l0_2 a1 l2 = some r) :
  Calls Try.prog 47 #[.agg #[.int .i64 a0_0,.int .i64 a0_1,.slice A0_2 l0_2.length c0_2],.int .i64 a1,.slice A2 l2.length c2] w fun e w' => e = .returned (.int .i64 r) ∧ Below w.heap.size w w':=by
 have hu51:=Try.underlying51;have HR0_2:=am hr0_2;have HC0_2:=am hc0_2;clear hr0_2 hc0_2;have HR2:=am hr2;have HC2:=am hc2;clear hr2 hc2;have HB:=am (Below.refl w.heap.size w);have H : ((impl_PlanCells.f k a0_0 a0_1 l0_2 a1 l2).bind fun t462 => (some (wrap64 ((t462.length : Int) - 1)))) = some r:=h;clear h;replace H:=bS.mp H;obtain ⟨t462,A40,H⟩:=H;replace H : (some (wrap64 ((t462.length : Int) - 1))) = some r:=H;have A4:=am A40;clear A40;obtain rfl:=Option.some.inj H
 go_enter Try.func47,Try.ntmps47
 go_wp2_with (first | ((with_reducible refine gate_dst (N:=3) rfl ?_);refine box_event ?hg (N:=3) ?hd (cs:=#[.int .i64 a0_0,.int .i64 a0_1,.slice A0_2 l0_2.length c0_2]) (t:=51) ?hr ?_;(case hd => rfl);(case hg => rfl);(case hr => exact qq296);intro gb461 hg w5 hbox hb;have BK461:=am (hbox);have GW461:=am ((qq149 : w.heap.size ≤ gb461));have GE461:=am ((qq149 : w.heap.size ≤ gb461));replace HB:=am (below_step qq197 hb);clear hb hbox hg;obtain ⟨hcz6_0,hcz6_1,hcz6_2,hfz6_0,hfz6_1,hfz6_2⟩:=bcl3 BK461.out) | ((with_reducible refine gate_callee (f:=45) rfl ?_);refine goesL_ (some 10) rfl rfl Try.func45 (by kernel_rfl) rfl #[.agg #[.int .i64 a0_0,.int .i64 a0_1,.slice A0_2 l0_2.length c0_2],.int .i64 a1,.slice A2 l2.length c2] rfl qq177 ?_;(with_reducible refine (impl_PlanCells.calls k a0_0 a0_1 _ _ l0_2 a1 _ _ l2 t462 _ ?side1 ?side2 ?side3 ?side4 A4.out).mono ?_);(case side1 => exact qq131);(case side2 => exact qq312);(case side3 => exact qq135);(case side4 => exact HC2.out);rintro e w7 ⟨v463,rfl,ho0,hb⟩;refine ⟨_,rfl,?_⟩;have HO464:=am (Kd.R_lower ho0 (below_size qq158));replace BK461:=am (blk_below (g:=gb461) (o:=.cells #[.int .i64 a0_0,.int .i64 a0_1,.slice A0_2 l0_2.length c0_2] 51 (0,0)) (by (with_reducible repeat (first | refine dN ?_ _ | refine dD ?_ | refine dA ?_ _));exact BK461.out) hb);replace HB:=am (below_step qq158 hb);(try clear hb);(try clear hb2);(try clear hk);(try clear hi);(try clear ho0);obtain ⟨Ao8,co8,eo8⟩:=Kd.R_slice HO464.out;subst eo8))
 go_ret
 exact ⟨qq246,qq158⟩

/-! ### impl_BackPlan: function 50 -/
def impl_BackPlan.l0 : Nat → Int → List (S76) → List (S76) → Int → Option ((List (S76)))
 | 0,_,_,_,_ => none
 | k + 1,x0,x1,x5,x6 => if x6 ≥ 0 then (if 0 ≤ x6 then (if x6 < (x1.length : Int) then (if x5.length < 8796093022208 then (impl_BackPlan.l0 k x0 x1 (x5 ++ [(⟨(rd_T76 x1 x6).f0,0⟩ : S76)]) (wrap64 (x6 - 1))) else (none)) else (none)) else (none)) else (if x5.length < 8796093022208 then (some (x5 ++ [(⟨x0,0⟩ : S76)])) else (none))
def impl_BackPlan.f (k : Nat) (a0 : Int) (l1 : List (S76)) : Option ((List (S76))) := if (l1.length : Int) = 0 then (some ([] : List (S76))) else (impl_BackPlan.l0 k a0 l1 (([] : List (S76))) (wrap64 ((l1.length : Int) - 2)))
set_option maxHeartbeats 8000000 in
set_option maxRecDepth 100000 in
theorem impl_BackPlan.calls (k : Nat) (a0 : Int) (A1 : Option Addr) (c1 : Nat) (l1 : List (S76)) (r : List (S76)) (w : World) (hr1 : Kd.C k76 w A1 l1.length l1) (hc1 : l1.length ≤ c1) (h : impl_BackPlan.f k a0 l1 = some r) :
  Calls Try.prog 50 #[.int .i64 a0,.slice A1 l1.length c1] w fun e w' => ∃ v0_ : Value,e = .returned (v0_) ∧ Kd.R k76 76 w' w.heap.size (fun _ => True) v0_ r ∧ Below w.heap.size w w':=by
 have hu76:=Try.underlying76;have HR1:=am hr1;have HC1:=am hc1;clear hr1 hc1;have HB:=am (Below.refl w.heap.size w);have H : (if (l1.length : Int) = 0 then (some ([] : List (S76))) else (impl_BackPlan.l0 k a0 l1 (([] : List (S76))) (wrap64 ((l1.length : Int) - 2)))) = some r:=h;clear h
 by_cases c3 : (l1.length : Int) = 0
 ·rw [if_pos c3] at H;have c3b0 : ((l1.length : Int) == 0) = true:=beq_iff_eq.mpr c3;have c3b1 : ((l1.length : Int) != 0) = false:=bne_eq_false_iff_eq.mpr c3;clear c3;obtain rfl:=Option.some.inj H
  go_enter Try.func50,Try.ntmps50
  go_wp2
  go_ret
  exact ⟨_,qq246,qq145,qq197⟩
 ·rw [if_neg c3] at H;have c3b0 : ((l1.length : Int) == 0) = false:=beq_eq_false_iff_ne.mpr c3;have c3b1 : ((l1.length : Int) != 0) = true:=bne_iff_ne.mpr c3;have c3b2 : ¬ (l1 = []):=fun h_ => c3 (by rw [h_];rfl)
  obtain ⟨y465,hy465⟩ : ∃ y_ : List (S76),y_ = (([] : List (S76))):=⟨_,rfl⟩
  replace H : (impl_BackPlan.l0 k a0 l1 y465 (wrap64 ((l1.length : Int) - 2))) = some r:=by first | (rw [hy465];with_reducible exact H) | (have H2_:=(Option.bind_some _ _).symm.trans H;rw [hy465];with_reducible exact H2_) | (have H2_:=(Option.bind_some _ _).symm.trans H;with_reducible exact H2_) | with_reducible exact H | (rw [hy465];exact H) | exact H
  have Ny465:=am hy465;clear hy465;have H':=am H;clear H
  go_enter Try.func50,Try.ntmps50
  go_wp2_with (first | ((with_reducible refine gate_dst (N:=10) rfl ?_);refine Kd.R_lit k76 _ 76 ?hg (N:=10) ?hd (xs:=([] : List (S76))) (inner:=[]) (ok:=fun _ => True) (okp:=fun _ => True) ?hr ?hp (fun _ hk => hk) trivial (Below.refl _ _) (Nat.le_refl _) (by simp) ?_;(case hd => rfl);(case hg => rfl);(case hr => exact qq296);(case hp => exact qq310);intro v466 w4 ho5 hb hg_ hnew_;clear hg_ hnew_;(first | rw [← Ny465.out] at ho5 | (simp only [Int.reduceToNat] at ho5;rw [← Ny465.out] at ho5));have HO467:=am (Kd.R_lower ho5 (below_size qq197));replace HB:=am (below_step qq197 hb);clear hb ho5))
  go_loopg [5,6] k (fun kq v5 v6 w' => ∃ (x5_1 : List (S76)) (x6_1 : Int),v6 = .int .i64 x6_1 ∧ Aside0 (impl_BackPlan.l0 kq a0 l1 x5_1 x6_1 = some r) ∧ Aside0 (kq ≤ k) ∧ Aside0 (Kd.R k76 76 w' w.heap.size (fun _ => True) v5 x5_1) ∧ Aside0 (Below w.heap.size w w'))
  case atStart => exact ⟨(y465),(wrap64 ((l1.length : Int) - 2)),qq295,H',⟨Nat.le_refl _⟩,⟨by (with_reducible repeat (first | apply kA | apply kN | apply kD));exact HO467.out⟩,⟨qq197⟩⟩
  case round =>
   clear H'
   try clear c1
   try clear p2
   try clear c3
   try clear c3b0
   try clear c3b1
   try clear c3b2
   try clear c5
   obtain ⟨x5_1,x6_1,rfl,HA,HK1,HO_5,HB⟩:=hrel
   cases gk with
   | zero => exact absurd HA.out (by simp [impl_BackPlan.l0])
   | succ k1 =>
    have H:=HA.out;clear HA;simp only [impl_BackPlan.l0] at H
    by_cases c6 : x6_1 ≥ 0
    ·rw [if_pos c6] at H;have c6b0 : decide (0 ≤ x6_1) = true:=decide_eq_true c6;clear c6
     by_cases c7 : 0 ≤ x6_1
     ·rw [if_pos c7] at H;have c7b0 : decide (0 ≤ x6_1) = true:=decide_eq_true c7;clear c7
      by_cases c8 : x6_1 < (l1.length : Int)
      ·rw [if_pos c8] at H;have c8b0 : decide (x6_1 < (l1.length : Int)) = true:=decide_eq_true c8;clear c8
       by_cases c9 : x5_1.length < 8796093022208
       ·rw [if_pos c9] at H;have LMc9:=am c9;clear c9;obtain ⟨y469,hy469⟩ : ∃ y_ : List (S76),y_ = (x5_1 ++ [(⟨(rd_T76 l1 x6_1).f0,0⟩ : S76)]):=⟨_,rfl⟩
        replace H : (impl_BackPlan.l0 k1 a0 l1 y469 (wrap64 (x6_1 - 1))) = some r:=by first | (rw [hy469];with_reducible exact H) | (have H2_:=(Option.bind_some _ _).symm.trans H;rw [hy469];with_reducible exact H2_) | (have H2_:=(Option.bind_some _ _).symm.trans H;with_reducible exact H2_) | with_reducible exact H | (rw [hy469];exact H) | exact H
        have Ny469:=am hy469;clear hy469;have H':=am H;clear H;have p468 : 0 ≤ (x6_1 : Int):=odt qq293;have q468 : x6_1 < (l1.length : Int):=odt qq293;obtain ⟨ad468,e468,hx468_0,hx468_1⟩:=at_T76 HR1.out x6_1 p468 q468
        cases e468
        replace hx468_0:=(ct HB.out hx468_0 :)
        replace hx468_1:=(ct HB.out hx468_1 :)
        replace p468:=eq_true p468;replace q468:=eq_true q468;go_wp2_with (first | ((with_reducible refine gate_builtin (b:=.append) (xs:=#[.tmp 18,.tmp 25]) rfl ?_);at_builtin;refine Kd.R_append k76 (w0:=w) w.heap.size rfl (.tmp 18) (.tmp 25) 68 76 (.agg #[(.int .i64 0),(.int .i64 0)]) 16 rfl Try.underlying68 info76 rfl (by decide) (by omega) u5 x5_1 (⟨(rd_T76 l1 x6_1).f0,0⟩ : S76) [.int .i64 ((rd_T76 l1 x6_1).f0),.int .i64 0] (fun _ => True) (fun _ => False) rfl rfl ?aP (fun _ hk => hk.elim) ?aF ?aO ?aB ?aS ?aL ?_;(case aP => exact k76_mkM _ _ _ (⟨(rd_T76 l1 x6_1).f0,0⟩ : S76));(case aB => exact qq185);(case aF => exact qq308);(case aO => exact qq252);(case aS => exact qq181);(case aL => have:=LMc9.out;omega);intro v470 w10 ho hb hg hat;rw [← Ny469.out] at ho;replace HB:=am (hb);have HO471:=am (ho);clear HO_5;clear ho hb hg hat))
        go_roundg k1
        case measure => have:=HK1.out;omega
        case rel => exact ⟨(y469),(wrap64 (x6_1 - 1)),qq295,H',⟨qq311⟩,⟨by (with_reducible repeat (first | apply kA | apply kN | apply kD));exact HO471.out⟩,⟨qq197⟩⟩
       ·rw [if_neg c9] at H;exact absurd H (by simp)
      ·rw [if_neg c8] at H;exact absurd H (by simp)
     ·rw [if_neg c7] at H;exact absurd H (by simp)
    ·rw [if_neg c6] at H;have c6b0 : decide (0 ≤ x6_1) = false:=decide_eq_false c6;clear c6
     by_cases c11 : x5_1.length < 8796093022208
     ·rw [if_pos c11] at H;have LMc11:=am c11;clear c11;obtain ⟨y472,hy472⟩ : ∃ y_ : List (S76),y_ = (x5_1 ++ [(⟨a0,0⟩ : S76)]):=⟨_,rfl⟩
      replace H : (some y472) = some r:=by first | (rw [hy472];with_reducible exact H) | (have H2_:=(Option.bind_some _ _).symm.trans H;rw [hy472];with_reducible exact H2_) | (have H2_:=(Option.bind_some _ _).symm.trans H;with_reducible exact H2_) | with_reducible exact H | (rw [hy472];exact H) | exact H
      have Ny472:=am hy472;clear hy472;obtain rfl:=Option.some.inj H;go_wp2_with (first | ((with_reducible refine gate_builtin (b:=.append) (xs:=#[.tmp 27,.tmp 30]) rfl ?_);at_builtin;refine Kd.R_append k76 (w0:=w) w.heap.size rfl (.tmp 27) (.tmp 30) 68 76 (.agg #[(.int .i64 0),(.int .i64 0)]) 16 rfl Try.underlying68 info76 rfl (by decide) (by omega) u5 x5_1 (⟨a0,0⟩ : S76) [.int .i64 a0,.int .i64 0] (fun _ => True) (fun _ => False) rfl rfl ?aP (fun _ hk => hk.elim) ?aF ?aO ?aB ?aS ?aL ?_;(case aP => exact k76_mkM _ _ _ (⟨a0,0⟩ : S76));(case aB => exact qq185);(case aF => exact qq308);(case aO => exact qq252);(case aS => exact qq181);(case aL => have:=LMc11.out;omega);intro v473 w12 ho hb hg hat;rw [← Ny472.out] at ho;replace HB:=am (hb);have HO474:=am (ho);clear HO_5;clear ho hb hg hat))
      go_ret
      exact ⟨_,qq246,by (with_reducible repeat (first | apply kA | apply kN | apply kD));exact HO474.out,qq197⟩
     ·rw [if_neg c11] at H;exact absurd H (by simp)

/-! ### spec_l6Rule: function 79 -/
def spec_l6Rule.f (s0_0 : List Int) (s0_1 : Int) (s0_2 : Int) : Option (Int × Int × Int × Int) := (spec_l1Below.f s0_0 s0_1 s0_2 6).bind fun bt476 => ((spec_l1Below.f s0_0 bt476.2.1 bt476.2.2 (wrap64 (1 + bt476.1))).bind fun bt479 => (some (bt479.1, wrap64 (1 + bt476.1), bt479.2.1, bt479.2.2)))
set_option maxHeartbeats 8000000 in
set_option maxRecDepth 100000 in
theorem spec_l6Rule.calls (g : Nat) (s0_0 : List Int) (s0_1 : Int) (s0_2 : Int) (r1 : Int) (r2 : Int) (r3 : Int) (r4 : Int) (w0 w : World) (hI : IsS141 w0 w g s0_0 s0_1 s0_2) (hB : Below w0.heap.size w0 w) (h : spec_l6Rule.f s0_0 s0_1 s0_2 = some (r1, r2, r3, r4)) :
  Calls Try.prog 79 #[.pointer (some ⟨g,0,none⟩)] w fun e w' => e = .returned (.agg #[.int .i64 r1,.int .i64 r2]) ∧ IsS141 w0 w' g s0_0 r3 r4 ∧ Below w0.heap.size w0 w' ∧ KeepBut w w' g none:=by
 have hu37:=Try.underlying37;have HI0:=am hI;have HK:=am (KeepBut.refl w g none);have HL:=am hB.size;clear hI;have HW0:=am hB.size;have HB:=am hB;clear hB;have H : ((spec_l1Below.f s0_0 s0_1 s0_2 6).bind fun bt476 => ((spec_l1Below.f s0_0 bt476.2.1 bt476.2.2 (wrap64 (1 + bt476.1))).bind fun bt479 => (some (bt479.1,wrap64 (1 + bt476.1),bt479.2.1,bt479.2.2)))) = some (r1,r2,r3,r4):=h;clear h;replace H:=bS.mp H;obtain ⟨⟨t476,t477,t478⟩,A20,H⟩:=H;replace H : ((spec_l1Below.f s0_0 t477 t478 (wrap64 (1 + t476))).bind fun bt479 => (some (bt479.1,wrap64 (1 + t476),bt479.2.1,bt479.2.2))) = some (r1,r2,r3,r4):=H;have A2:=am A20;clear A20;replace H:=bS.mp H;obtain ⟨⟨t479,t480,t481⟩,A30,H⟩:=H;replace H : (some (t479,wrap64 (1 + t476),t480,t481)) = some (r1,r2,r3,r4):=H;have A3:=am A30;clear A30;simp only [Option.some.injEq,Prod.mk.injEq] at H;obtain ⟨rfl,rfl,rfl,rfl⟩:=H
 go_enter Try.func79,Try.ntmps79
 go_wp2_with (first | ((with_reducible refine gate_dst (N:=2) rfl ?_);refine box_event ?hg (N:=2) ?hd (cs:=#[.int .i64 0,.int .i64 0]) (t:=37) ?hr ?_;(case hd => rfl);(case hg => rfl);(case hr => exact qq296);intro gb475 hg w4 hbox hb;replace HB:=am (below_step qq143 hb);have BK475:=am (hbox);have GW475:=am ((qq81 : w.heap.size ≤ gb475));have GE475:=am ((Nat.le_trans HW0.out (qq81 : w.heap.size ≤ gb475) : w0.heap.size ≤ gb475));replace HK:=am (KeepBut.trans qq139 (KeepBut.of_below hb g none) (.inl rfl));have NB0_475:=am ((qq36 : g ≠ gb475));have NB475_0:=am ((qq37 : gb475 ≠ g));replace HI0:=am (IsS141.below qq109 hb);clear hb hbox hg) | ((with_reducible refine gate_callee (f:=78) rfl ?_);refine goesL_ (some 5) rfl rfl Try.func78 (by kernel_rfl) rfl #[.pointer (some ⟨g,0,none⟩),.int .i64 6] rfl qq177 ?_;(with_reducible refine (spec_l1Below.calls g s0_0 s0_1 s0_2 6 t476 t477 t478 w0 _ ?side1 ?side2 A2.out).mono ?_);(case side1 => exact qq73);(case side2 => exact qq105);rintro e w5 ⟨rfl,hi,hb,hk⟩;refine ⟨_,rfl,?_⟩;replace BK475:=am (KeepBut.blk hk (g':=gb475) (o:=.cells #[.int .i64 0,.int .i64 0] 37 (0,0)) qq220 NB475_0.out (by simp));replace HK:=am (KeepBut.trans qq98 hk (.inl rfl));replace HB:=am (hb);replace HI0:=am (hi);(try clear hb);(try clear hb2);(try clear hk);(try clear hi)) | ((with_reducible refine gate_callee (f:=78) rfl ?_);refine goesL_ (some 9) rfl rfl Try.func78 (by kernel_rfl) rfl #[.pointer (some ⟨g,0,none⟩),.int .i64 (wrap64 (1 + t476))] rfl qq177 ?_;(with_reducible refine (spec_l1Below.calls g s0_0 t477 t478 (wrap64 (1 + t476)) t479 t480 t481 w0 _ ?side1 ?side2 A3.out).mono ?_);(case side1 => exact qq73);(case side2 => exact qq105);rintro e w6 ⟨rfl,hi,hb,hk⟩;refine ⟨_,rfl,?_⟩;replace BK475:=am (KeepBut.blk hk (g':=gb475) (o:=.cells #[.int .i64 0,.int .i64 0] 37 (0,0)) qq220 NB475_0.out (by simp));replace HK:=am (KeepBut.trans qq98 hk (.inl rfl));replace HB:=am (hb);replace HI0:=am (hi);(try clear hb);(try clear hb2);(try clear hk);(try clear hi);have hnb7:=NB475_0.out;have hnc7:=NB0_475.out;obtain ⟨hcz8_0,hcz8_1,hfz8_0,hfz8_1⟩:=bcl2 BK475.out))
 refine bodyPost_ret (results_cell_row rfl _ _ gb475 37 #[.int .i64 t479,.int .i64 (wrap64 (1 + t476))] (0,0) _ rfl (by (with_reducible repeat (first | refine dN ?_ _ | refine dD ?_ | refine dA ?_ _));refine blk_put (cs:=#[.int .i64 t479,.int .i64 0]) ?_ 1 _ rfl;(with_reducible repeat (first | refine dN ?_ _ | refine dD ?_ | refine dA ?_ _));refine blk_put (cs:=#[.int .i64 0,.int .i64 0]) ?_ 0 _ rfl;(with_reducible repeat (first | refine dN ?_ _ | refine dD ?_ | refine dA ?_ _));exact BK475.out) Try.underlying37 rfl (by kernel_rfl)) rfl ?_;exact ⟨qq246,qq73,qq105,qq98⟩

/-! ### spec_l1Once: function 81 -/
def spec_l1Once.f (s0_0 : List Int) (s0_1 : Int) (s0_2 : Int) (a1 : Int) : Option (Bool × Int × Int) := (spec_l1Below.f s0_0 s0_1 s0_2 a1).bind fun bt482 => (some ((bt482.1 == 0), bt482.2.1, bt482.2.2))
set_option maxHeartbeats 8000000 in
set_option maxRecDepth 100000 in
theorem spec_l1Once.calls (g : Nat) (s0_0 : List Int) (s0_1 : Int) (s0_2 : Int) (a1 : Int) (r1 : Bool) (r2 : Int) (r3 : Int) (w0 w : World) (hI : IsS141 w0 w g s0_0 s0_1 s0_2) (hB : Below w0.heap.size w0 w) (h : spec_l1Once.f s0_0 s0_1 s0_2 a1 = some (r1, r2, r3)) :
  Calls Try.prog 81 #[.pointer (some ⟨g,0,none⟩),.int .i64 a1] w fun e w' => e = .returned (.bool r1) ∧ IsS141 w0 w' g s0_0 r2 r3 ∧ Below w0.heap.size w0 w' ∧ KeepBut w w' g none:=by
 have HI0:=am hI;have HK:=am (KeepBut.refl w g none);have HL:=am hB.size;clear hI;have HW0:=am hB.size;have HB:=am hB;clear hB;have H : ((spec_l1Below.f s0_0 s0_1 s0_2 a1).bind fun bt482 => (some ((bt482.1 == 0),bt482.2.1,bt482.2.2))) = some (r1,r2,r3):=h;clear h;replace H:=bS.mp H;obtain ⟨⟨t482,t483,t484⟩,A30,H⟩:=H;replace H : (some ((t482 == 0),t483,t484)) = some (r1,r2,r3):=H;have A3:=am A30;clear A30;simp only [Option.some.injEq,Prod.mk.injEq] at H;obtain ⟨rfl,rfl,rfl⟩:=H
 go_enter Try.func81,Try.ntmps81
 go_wp2_with (first | ((with_reducible refine gate_callee (f:=78) rfl ?_);refine goesL_ (some 7) rfl rfl Try.func78 (by kernel_rfl) rfl #[.pointer (some ⟨g,0,none⟩),.int .i64 a1] rfl qq177 ?_;(with_reducible refine (spec_l1Below.calls g s0_0 s0_1 s0_2 a1 t482 t483 t484 w0 _ ?side1 ?side2 A3.out).mono ?_);(case side1 => exact qq109);(case side2 => exact qq143);rintro e w4 ⟨rfl,hi,hb,hk⟩;refine ⟨_,rfl,?_⟩;replace HK:=am (KeepBut.trans qq139 hk (.inl rfl));replace HB:=am (hb);replace HI0:=am (hi);(try clear hb);(try clear hb2);(try clear hk);(try clear hi)))
 go_ret
 exact ⟨qq246,qq109,qq143,qq139⟩

/-! ### spec_IsRule: function 139 -/
def spec_IsRule.f (a0_0 : Int) (a0_1 : Int) : Option (Bool) := (spec_l1In.f a0_1 1 10).bind fun t486 => (if t486 = true then ((spec_l1In.f a0_0 0 (wrap64 (a0_1 - 1))).bind fun t487 => (some t487)) else (some false))
set_option maxHeartbeats 8000000 in
set_option maxRecDepth 100000 in
theorem spec_IsRule.calls (a0_0 : Int) (a0_1 : Int) (r : Bool) (w : World) (h : spec_IsRule.f a0_0 a0_1 = some r) :
  Calls Try.prog 139 #[.agg #[.int .i64 a0_0,.int .i64 a0_1]] w fun e w' => e = .returned (.bool r) ∧ Below w.heap.size w w':=by
 have hu37:=Try.underlying37;have HB:=am (Below.refl w.heap.size w);have H : ((spec_l1In.f a0_1 1 10).bind fun t486 => (if t486 = true then ((spec_l1In.f a0_0 0 (wrap64 (a0_1 - 1))).bind fun t487 => (some t487)) else (some false))) = some r:=h;clear h;replace H:=bS.mp H;obtain ⟨t486,A20,H⟩:=H;replace H : (if t486 = true then ((spec_l1In.f a0_0 0 (wrap64 (a0_1 - 1))).bind fun t487 => (some t487)) else (some false)) = some r:=H;have A2:=am A20;clear A20
 by_cases c3 : t486 = true
 ·subst c3;have H1 : ((spec_l1In.f a0_0 0 (wrap64 (a0_1 - 1))).bind fun t487 => (some t487)) = some r:=by rw [if_pos rfl] at H;exact H
  clear H;have H:=H1;clear H1;replace H:=bS.mp H;obtain ⟨t487,A40,H⟩:=H;replace H : (some t487) = some r:=H;have A4:=am A40;clear A40;obtain rfl:=Option.some.inj H
  go_enter Try.func139,Try.ntmps139
  go_wp2_with (first | ((with_reducible refine gate_dst (N:=1) rfl ?_);refine box_event ?hg (N:=1) ?hd (cs:=#[.int .i64 a0_0,.int .i64 a0_1]) (t:=37) ?hr ?_;(case hd => rfl);(case hg => rfl);(case hr => exact qq296);intro gb485 hg w5 hbox hb;have BK485:=am (hbox);have GW485:=am ((qq149 : w.heap.size ≤ gb485));have GE485:=am ((qq149 : w.heap.size ≤ gb485));replace HB:=am (below_step qq197 hb);clear hb hbox hg;obtain ⟨hcz6_0,hcz6_1,hfz6_0,hfz6_1⟩:=bcl2 BK485.out) | ((with_reducible refine gate_callee (f:=104) rfl ?_);refine goesL_ (some 5) rfl rfl Try.func104 (by kernel_rfl) rfl #[.int .i64 a0_1,.int .i64 1,.int .i64 10] rfl qq177 ?_;(with_reducible refine (spec_l1In.calls a0_1 1 10 true _ A2.out).mono ?_);rintro e w' ⟨rfl,⟨nd,rfl⟩⟩;refine ⟨_,rfl,?_⟩) | (go_at_call 104;(with_reducible refine (spec_l1In.calls a0_0 0 (wrap64 (a0_1 - 1)) t487 _ A4.out).mono ?_);rintro e w' ⟨rfl,⟨nd,rfl⟩⟩))
  go_ret
  exact ⟨qq246,qq157⟩
 ·replace c3:=Bool.eq_false_iff.mpr c3;subst c3;have H1 : (some false) = some r:=by rw [if_neg (show ¬ (false = true) by decide)] at H;exact H
  clear H;have H:=H1;clear H1;obtain rfl:=Option.some.inj H
  go_enter Try.func139,Try.ntmps139
  go_wp2_with (first | ((with_reducible refine gate_dst (N:=1) rfl ?_);refine box_event ?hg (N:=1) ?hd (cs:=#[.int .i64 a0_0,.int .i64 a0_1]) (t:=37) ?hr ?_;(case hd => rfl);(case hg => rfl);(case hr => exact qq296);intro gb485 hg w7 hbox hb;have BK485:=am (hbox);have GW485:=am ((qq149 : w.heap.size ≤ gb485));have GE485:=am ((qq149 : w.heap.size ≤ gb485));replace HB:=am (below_step qq197 hb);clear hb hbox hg;obtain ⟨hcz8_0,hcz8_1,hfz8_0,hfz8_1⟩:=bcl2 BK485.out) | ((with_reducible refine gate_callee (f:=104) rfl ?_);refine goesL_ (some 5) rfl rfl Try.func104 (by kernel_rfl) rfl #[.int .i64 a0_1,.int .i64 1,.int .i64 10] rfl qq177 ?_;(with_reducible refine (spec_l1In.calls a0_1 1 10 false _ A2.out).mono ?_);rintro e w' ⟨rfl,⟨nd,rfl⟩⟩;refine ⟨_,rfl,?_⟩))
  go_ret
  exact ⟨qq246,qq157⟩

/-! ### spec_CountStorms: function 143 -/
def spec_CountStorms.l0 : Nat → List Bool → Int → Int → Option (Int)
 | 0,_,_,_ => none
 | k + 1,x0,x3,x4 => if x4 < (x0.length : Int) then (if 0 ≤ x4 then (if rdOf false x0 x4 = true then (spec_CountStorms.l0 k x0 (wrap64 (x3 + 1)) (wrap64 (x4 + 1))) else (spec_CountStorms.l0 k x0 x3 (wrap64 (x4 + 1)))) else (none)) else (some x3)
def spec_CountStorms.f (k : Nat) (l0 : List Bool) : Option (Int) := spec_CountStorms.l0 k l0 0 0
set_option maxHeartbeats 8000000 in
set_option maxRecDepth 100000 in
theorem spec_CountStorms.calls (k : Nat) (A0 : Option Addr) (c0 : Nat) (l0 : List Bool) (r : Int) (w : World) (hr0 : Kd.C Kd.bool w A0 l0.length l0) (hc0 : l0.length ≤ c0) (h : spec_CountStorms.f k l0 = some r) :
  Calls Try.prog 143 #[.slice A0 l0.length c0] w fun e w' => e = .returned (.int .i64 r) ∧ Drawn0 w w':=by
 have HR0:=am hr0;have HC0:=am hc0;clear hr0 hc0;have H : (spec_CountStorms.l0 k l0 0 0) = some r:=h;clear h;have H':=am H;clear H
 go_enter Try.func143,Try.ntmps143
 go_wp2
 go_loopg [3,4] k (fun kq v3 v4 w' => ∃ (x3_1 : Int) (x4_1 : Int),v3 = .int .i64 x3_1 ∧ v4 = .int .i64 x4_1 ∧ Aside0 (spec_CountStorms.l0 kq l0 x3_1 x4_1 = some r) ∧ Aside0 (kq ≤ k) ∧ Drawn0 w w')
 case atStart => exact ⟨(0),(0),qq295,qq295,H',⟨Nat.le_refl _⟩,qq291⟩
 case round =>
  clear H'
  try clear c1
  obtain ⟨x3_1,x4_1,rfl,rfl,HA,HK1,⟨m1,rfl⟩⟩:=hrel
  cases gk with
  | zero => exact absurd HA.out (by simp [spec_CountStorms.l0])
  | succ k1 =>
   have H:=HA.out;clear HA;simp only [spec_CountStorms.l0] at H
   by_cases c2 : x4_1 < (l0.length : Int)
   ·rw [if_pos c2] at H;have c2b0 : decide (x4_1 < (l0.length : Int)) = true:=decide_eq_true c2;clear c2
    by_cases c3 : 0 ≤ x4_1
    ·rw [if_pos c3] at H;have c3b0 : decide (0 ≤ x4_1) = true:=decide_eq_true c3;clear c3;obtain ⟨bq4,hbq4⟩ : ∃ b_ : Bool,b_ = (rdOf false l0 x4_1):=⟨_,rfl⟩
     replace H : (if bq4 = true then (spec_CountStorms.l0 k1 l0 (wrap64 (x3_1 + 1)) (wrap64 (x4_1 + 1))) else (spec_CountStorms.l0 k1 l0 x3_1 (wrap64 (x4_1 + 1)))) = some r:=by rw [← hbq4] at H;exact H
     have Nbq4:=am hbq4;clear hbq4
     by_cases c5 : bq4 = true
     ·subst c5;have H1 : (spec_CountStorms.l0 k1 l0 (wrap64 (x3_1 + 1)) (wrap64 (x4_1 + 1))) = some r:=by rw [if_pos rfl] at H;exact H
      clear H;have H:=H1;clear H1;have H':=am H;clear H;have p488 : 0 ≤ (x4_1 : Int):=odt qq293;have q488 : x4_1 < (l0.length : Int):=odt qq293;obtain ⟨ad488,e488,hx488_0⟩:=Kd.at_bool HR0.out x4_1 p488 q488;(try rw [← Nbq4.out] at hx488_0)
      cases e488
      replace p488:=eq_true p488;replace q488:=eq_true q488;go_wp2
      go_roundg k1
      case measure => have:=HK1.out;omega
      case rel => exact ⟨(wrap64 (x3_1 + 1)),(wrap64 (x4_1 + 1)),qq295,qq295,H',⟨qq311⟩,qq291⟩
     ·replace c5:=Bool.eq_false_iff.mpr c5;subst c5;have H1 : (spec_CountStorms.l0 k1 l0 x3_1 (wrap64 (x4_1 + 1))) = some r:=by rw [if_neg (show ¬ (false = true) by decide)] at H;exact H
      clear H;have H:=H1;clear H1;have H':=am H;clear H;have p488 : 0 ≤ (x4_1 : Int):=odt qq293;have q488 : x4_1 < (l0.length : Int):=odt qq293;obtain ⟨ad488,e488,hx488_0⟩:=Kd.at_bool HR0.out x4_1 p488 q488;(try rw [← Nbq4.out] at hx488_0)
      cases e488
      replace p488:=eq_true p488;replace q488:=eq_true q488;go_wp2
      go_roundg k1
      case measure => have:=HK1.out;omega
      case rel => exact ⟨(x3_1),(wrap64 (x4_1 + 1)),qq295,qq295,H',⟨qq311⟩,qq291⟩
    ·rw [if_neg c3] at H;exact absurd H (by simp)
   ·rw [if_neg c2] at H;have c2b0 : decide (x4_1 < (l0.length : Int)) = false:=decide_eq_false c2;clear c2;obtain rfl:=Option.some.inj H;go_wp2
    go_ret
    exact ⟨qq295,qq291⟩

/-! ### spec_Max: function 144 -/
def spec_Max.f (a0 : Int) (a1 : Int) : Option (Int) := if a1 > a0 then (some a1) else (some a0)
set_option maxHeartbeats 8000000 in
set_option maxRecDepth 100000 in
theorem spec_Max.calls (a0 : Int) (a1 : Int) (r : Int) (w : World) (h : spec_Max.f a0 a1 = some r) :
  Calls Try.prog 144 #[.int .i64 a0,.int .i64 a1] w fun e w' => e = .returned (.int .i64 r) ∧ Drawn0 w w':=by
 have H : (if a1 > a0 then (some a1) else (some a0)) = some r:=h;clear h
 by_cases c3 : a1 > a0
 ·rw [if_pos c3] at H;have c3b0 : decide (a0 < a1) = true:=decide_eq_true c3;clear c3;obtain rfl:=Option.some.inj H
  go_enter Try.func144,Try.ntmps144
  go_wp2
  go_ret
  exact ⟨qq295,qq291⟩
 ·rw [if_neg c3] at H;have c3b0 : decide (a0 < a1) = false:=decide_eq_false c3;clear c3;obtain rfl:=Option.some.inj H
  go_enter Try.func144,Try.ntmps144
  go_wp2
  go_ret
  exact ⟨qq295,qq291⟩

end Go.Proofs.Ytcbkknpmeknppaa.PFnPlans
