/- Contracts of functions that the law FnExactPlanFood reaches, for its row: lines that the kit's printer wrote for this claim, set shorter by a program of this session (own.py), and what fell in Lean proved anew. Lean checks them. -/
import Derived.Test.YtcbkknpmeknppaaSFnExactPlanFoodx0
import Derived.Test.YtcbkknpmeknppaaSFnExactPlanFoodx2
import Derived.Test.YtcbkknpmeknppaaSFnExactPlanFoodx3
import Derived.Test.YtcbkknpmeknppaaSFnExactPlanFoodx4
import Derived.Test.YtcbkknpmeknppaaSFnExactPlanFoodx7
namespace Go.Proofs.Ytcbkknpmeknppaa.PFnExactPlanFood
open Go.RowKit Go.Proofs.YtcbkknpmeknppaaW.PrintWords Go.Proofs.YtcbkknpmeknppaaW.PrintLast Go.Proofs.YtcbkknpmeknppaaW.PrintMore
attribute [local go_sem] max2_int min2_int max_two min_two max_three min_three max_four min_four   -- for this text's walks alone
set_option linter.unusedVariables false
set_option linter.unusedSimpArgs false

/-! ### impl_PlanCells: function 45 -/
mutual
def impl_PlanCells.l0 : Nat → Int → List Int → List (S76) → Int → Int → Int → Int → List Int → Option (List Int)
 | 0,_,_,_,_,_,_,_,_ => none
 | k + 1,x1,x7,x17,x18,x19,x261000,x261001,x261002 => if x19 < x18 then (if 0 ≤ x19 then (if x19 < (x17.length : Int) then ((impl_WayTo.f k x261000 x261001 x261002 x1 ((rd_T76 x17 x19).f0)).bind fun t267 => (if 1 ≤ (t267.length : Int) then ((some (t267.drop 1 : List Int)).bind fun y270 => (if x7.length + y270.length < 17592186044416 then (impl_PlanCells.l1 k (x7 ++ y270) x17 x18 x19 ((rd_T76 x17 x19).f1) 0 x261000 x261001 x261002 ((rd_T76 x17 x19).f0) ((rd_T76 x17 x19).f1)) else (none))) else (none))) else (none)) else (none)) else (some x7)
def impl_PlanCells.l1 : Nat → List Int → List (S76) → Int → Int → Int → Int → Int → Int → List Int → Int → Int → Option (List Int)
 | 0,_,_,_,_,_,_,_,_,_,_,_ => none
 | k + 1,x7,x17,x18,x19,x32,x33,x261000,x261001,x261002,x267000,x267001 => if x33 < x32 then (if x7.length < 17592186044416 then (impl_PlanCells.l1 k (x7 ++ [x267000]) x17 x18 x19 x32 (wrap64 (x33 + 1)) x261000 x261001 x261002 x267000 x267001) else (none)) else (impl_PlanCells.l0 k x267000 x7 x17 x18 (wrap64 (x19 + 1)) x261000 x261001 x261002)
end
def impl_PlanCells.f (k : Nat) (a0_0 : Int) (a0_1 : Int) (l0_2 : List Int) (a1 : Int) (l2 : List (S76)) : Option (List Int) := (impl_IsPlan.f k a0_0 a0_1 l0_2 a1 l2).bind fun t261 => (if t261 = true then (impl_PlanCells.l0 k a1 (([a1] : List Int)) l2 (l2.length : Int) 0 a0_0 a0_1 l0_2) else (some ([] : List Int)))
set_option maxHeartbeats 8000000 in
set_option maxRecDepth 100000 in
theorem impl_PlanCells.calls (k : Nat) (a0_0 : Int) (a0_1 : Int) (A0_2 : Option Addr) (c0_2 : Nat) (l0_2 : List Int) (a1 : Int) (A2 : Option Addr) (c2 : Nat) (l2 : List (S76)) (r : List Int) (w : World) (hr0_2 : Kd.C (Kd.int .i64) w A0_2 l0_2.length l0_2) (hc0_2 : l0_2.length ≤ c0_2) (hr2 : Kd.C k76 w A2 l2.length l2) (hc2 : l2.length ≤ c2) (h : impl_PlanCells.f k a0_0 a0_1 l0_2 a1 l2 = some r) :
  Calls Try.prog 45 #[.agg #[.int .i64 a0_0,.int .i64 a0_1,.slice A0_2 l0_2.length c0_2],.int .i64 a1,.slice A2 l2.length c2] w fun e w' => ∃ v0_ : Value,e = .returned (v0_) ∧ Kd.R (Kd.int .i64) 3 w' w.heap.size (fun _ => True) v0_ r ∧ Below w.heap.size w w':=by
 have hu51:=Try.underlying51;have hu76:=Try.underlying76;have HR0_2:=am hr0_2;have HC0_2:=am hc0_2;clear hr0_2 hc0_2;have HR2:=am hr2;have HC2:=am hc2;clear hr2 hc2;have HB:=am qq465;have H : ((impl_IsPlan.f k a0_0 a0_1 l0_2 a1 l2).bind fun t261 => (if t261 = true then (impl_PlanCells.l0 k a1 (([a1] : List Int)) l2 (l2.length : Int) 0 a0_0 a0_1 l0_2) else (some ([] : List Int)))) = some r:=h;clear h;replace H:=bS.mp H;obtain ⟨t261,A40,H⟩:=H;(try dsimp only at H);have A4:=am A40;clear A40
 by_cases c5 : t261 = true
 ·subst c5;rw [if_pos rfl] at H;obtain ⟨y262,hy262⟩ : ∃ y_ : List Int,y_ = (([a1] : List Int)):=⟨_,rfl⟩
  replace H : (impl_PlanCells.l0 k a1 y262 l2 (l2.length : Int) 0 a0_0 a0_1 l0_2) = some r:=by first | (rw [hy262];with_reducible exact H) | (have H2_:=(Option.bind_some _ _).symm.trans H;rw [hy262];with_reducible exact H2_) | (have H2_:=(Option.bind_some _ _).symm.trans H;with_reducible exact H2_) | with_reducible exact H | (rw [hy262];exact H) | exact H
  have Ny262:=am hy262;clear hy262;have H':=am H;clear H
  go_enter Try.func45,Try.ntmps45
  go_wp2_with (first | ((with_reducible refine gate_dst (N:=3) rfl ?_);refine box_event ?hg (N:=3) ?hd (cs:=#[.int .i64 a0_0,.int .i64 a0_1,.slice A0_2 l0_2.length c0_2]) (t:=51) ?hr ?_;(case hd => rfl);(case hg => rfl);(case hr => exact qq312);intro gb260 hg w6 hbox hb;have BK260:=am (hbox);have GW260:=am qq440;have GE260:=am qq440;replace HB:=am qq488;clear hb hbox hg;obtain ⟨hcz7_0,hcz7_1,hcz7_2,hfz7_0,hfz7_1,hfz7_2⟩:=bcl3 BK260.out) | ((with_reducible refine gate_callee (f:=46) rfl ?_);refine goesL_ (some 13) rfl rfl Try.func46 (by kernel_rfl) rfl #[.agg #[.int .i64 a0_0,.int .i64 a0_1,.slice A0_2 l0_2.length c0_2],.int .i64 a1,.slice A2 l2.length c2] rfl qq187 ?_;(with_reducible refine (impl_IsPlan.calls k a0_0 a0_1 _ _ l0_2 a1 _ _ l2 true _ ?side1 ?side2 ?side3 ?side4 A4.out).mono ?_);(case side1 => exact qq117);(case side2 => exact qq334);(case side3 => exact qq131);(case side4 => exact HC2.out);rintro e w8 ⟨rfl,hb⟩;refine ⟨_,rfl,?_⟩;replace BK260:=am qq374;replace HB:=am (below_step qq173 hb);(try clear hb);(try clear hb2);(try clear hk);(try clear hi)) | ((with_reducible refine gate_dst (N:=16) rfl ?_);refine Kd.R_lit (Kd.int .i64) _ 3 ?hg (N:=16) ?hd (xs:=([a1] : List Int)) (inner:=[.int .i64 a1]) (ok:=fun _ => True) (okp:=fun _ => True) ?hr ?hp (fun _ hk => hk) trivial (Below.refl _ _) (Nat.le_refl _) (by simp) ?_;(case hd => rfl);(case hg => rfl);(case hr => exact qq312);(case hp => exact qq266);intro v263 w9 ho10 hb hg_ hnew_;clear hg_ hnew_;(first | rw [← Ny262.out] at ho10 | (simp only [Int.reduceToNat] at ho10;rw [← Ny262.out] at ho10));have HO264:=am (Kd.R_lower ho10 (below_size qq173));replace BK260:=am qq374;replace HB:=am (below_step qq173 hb);clear hb ho10))
  go_loopg [1,7,19] k (fun kq v1 v7 v19 w' => ∃ (x1_1 : Int) (x7_1 : List Int) (x19_1 : Int),v1 = .int .i64 x1_1 ∧ v19 = .int .i64 x19_1 ∧ Aside0 (impl_PlanCells.l0 kq x1_1 x7_1 l2 (l2.length : Int) x19_1 a0_0 a0_1 l0_2 = some r) ∧ Aside0 (kq ≤ k) ∧ Aside0 (Kd.R (Kd.int .i64) 3 w' w.heap.size (fun _ => True) v7 x7_1) ∧ Aside0 (w'.heap[gb260]? = some (.cells #[.int .i64 a0_0,.int .i64 a0_1,(.slice A0_2 l0_2.length c0_2)] 51 (0,0))) ∧ Aside0 (Below w.heap.size w w'))
  case atStart => exact ⟨(a1),(y262),(0),qq311,qq311,H',⟨Nat.le_refl _⟩,⟨by (with_reducible repeat (first | apply kA | apply kN | apply kD));exact HO264.out⟩,⟨qq250⟩,⟨qq173⟩⟩
  case round =>
   clear H'
   try clear c2
   try clear p2
   try clear c4
   try clear c5
   try clear hcz7_0
   try clear hcz7_1
   try clear hcz7_2
   try clear hfz7_0
   try clear hfz7_1
   try clear hfz7_2
   obtain ⟨x1_1,x7_1,x19_1,rfl,rfl,HA,HK1,HO_7,BK260,HB⟩:=hrel
   cases gk with
   | zero => exact absurd HA.out (by simp [impl_PlanCells.l0])
   | succ k1 =>
    have H:=HA.out;clear HA;simp only [impl_PlanCells.l0] at H
    by_cases c11 : x19_1 < (l2.length : Int)
    ·rw [if_pos c11] at H;have c11b0 : decide (x19_1 < (l2.length : Int)) = true:=decide_eq_true c11;clear c11
     by_cases c12 : 0 ≤ x19_1
     ·rw [if_pos c12] at H;have c12b0 : decide (0 ≤ x19_1) = true:=decide_eq_true c12;clear c12
      by_cases c13 : x19_1 < (l2.length : Int)
      ·rw [if_pos c13] at H;have c13b0 : decide (x19_1 < (l2.length : Int)) = true:=decide_eq_true c13;clear c13;replace H:=bS.mp H;obtain ⟨t267,A140,H⟩:=H;(try dsimp only at H);have A14:=am A140;clear A140
       by_cases c15 : 1 ≤ (t267.length : Int)
       ·rw [if_pos c15] at H;have c15b0:=eq_true c15;have c15b1 : decide (1 ≤ (t267.length : Int)) = true:=decide_eq_true c15;clear c15;obtain ⟨y270,hy270⟩ : ∃ y_ : List Int,y_ = (t267.drop 1):=⟨_,rfl⟩
        replace H : (if x7_1.length + y270.length < 17592186044416 then (impl_PlanCells.l1 k1 (x7_1 ++ y270) l2 (l2.length : Int) x19_1 ((rd_T76 l2 x19_1).f1) 0 a0_0 a0_1 l0_2 ((rd_T76 l2 x19_1).f0) ((rd_T76 l2 x19_1).f1)) else (none)) = some r:=by first | (rw [hy270];with_reducible exact H) | (have H2_:=(Option.bind_some _ _).symm.trans H;rw [hy270];with_reducible exact H2_) | (have H2_:=(Option.bind_some _ _).symm.trans H;with_reducible exact H2_) | with_reducible exact H | (rw [hy270];exact H) | exact H
        have Ny270:=am hy270;clear hy270
        by_cases c16 : x7_1.length + y270.length < 17592186044416
        ·rw [if_pos c16] at H;have LMc16:=am c16;clear c16;obtain ⟨y274,hy274⟩ : ∃ y_ : List Int,y_ = (x7_1 ++ y270):=⟨_,rfl⟩
         replace H : (impl_PlanCells.l1 k1 y274 l2 (l2.length : Int) x19_1 ((rd_T76 l2 x19_1).f1) 0 a0_0 a0_1 l0_2 ((rd_T76 l2 x19_1).f0) ((rd_T76 l2 x19_1).f1)) = some r:=by first | (rw [hy274];with_reducible exact H) | (have H2_:=(Option.bind_some _ _).symm.trans H;rw [hy274];with_reducible exact H2_) | (have H2_:=(Option.bind_some _ _).symm.trans H;with_reducible exact H2_) | with_reducible exact H | (rw [hy274];exact H) | exact H
         have Ny274:=am hy274;clear hy274;have H':=am H;clear H;have p265 : 0 ≤ (x19_1 : Int):=odt qq309;have q265 : x19_1 < (l2.length : Int):=odt qq309;obtain ⟨ad265,e265,hx265_0,hx265_1⟩:=at_T76 HR2.out x19_1 p265 q265
         cases e265
         replace hx265_0:=(ct HB.out hx265_0 :)
         replace hx265_1:=(ct HB.out hx265_1 :)
         replace p265:=eq_true p265;replace q265:=eq_true q265;go_wp2_with (first | ((with_reducible refine gate_dst (N:=9) rfl ?_);refine box_event ?hg (N:=9) ?hd (cs:=#[.int .i64 0,.int .i64 0]) (t:=76) ?hr ?_;(case hd => rfl);(case hg => rfl);(case hr => exact qq312);intro gb266 hg w17 hbox hb;replace HO_7:=am (Kd.R_below qq302 hb);have BK266:=am (hbox);have GW266:=am ((qq87 : w.heap.size ≤ gb266));have GE266:=am ((qq87 : w.heap.size ≤ gb266));replace HB:=am (below_step qq173 hb);have NB260_266:=am ((by rw [hg];exact Nat.ne_of_lt (blk_lt (g:=gb260) (o:=.cells #[.int .i64 a0_0,.int .i64 a0_1,.slice A0_2 l0_2.length c0_2] 51 (0,0)) qq250) : gb260 ≠ gb266));have NB266_260:=am ((by rw [hg];exact Nat.ne_of_gt (blk_lt (g:=gb260) (o:=.cells #[.int .i64 a0_0,.int .i64 a0_1,.slice A0_2 l0_2.length c0_2] 51 (0,0)) qq250) : gb266 ≠ gb260));replace BK260:=am qq374;clear hb hbox hg;have hnb18:=NB266_260.out;have hnc18:=NB260_266.out;obtain ⟨hcz19_0,hcz19_1,hfz19_0,hfz19_1⟩:=bcl2 BK266.out;obtain ⟨hcz20_0,hcz20_1,hcz20_2,hfz20_0,hfz20_1,hfz20_2⟩:=bcl3 BK260.out) | ((with_reducible refine gate_callee (f:=97) rfl ?_);refine goesL_ (some 28) rfl rfl Try.func97 (by kernel_rfl) rfl #[.agg #[.int .i64 a0_0,.int .i64 a0_1,.slice A0_2 l0_2.length c0_2],.int .i64 x1_1,.int .i64 ((rd_T76 l2 x19_1).f0)] rfl qq187 ?_;(with_reducible refine (impl_WayTo.calls k1 a0_0 a0_1 _ _ l0_2 x1_1 ((rd_T76 l2 x19_1).f0) t267 _ ?side1 ?side2 A14.out).mono ?_);(case side1 => exact Kd.C_below HR0_2.out qq101);(case side2 => exact qq334);rintro e w21 ⟨v268,rfl,ho0,hb⟩;refine ⟨_,rfl,?_⟩;have HO269:=am (Kd.R_lower (Kd.R_new' ho0 (Kd.R_lt qq17)) (below_size qq101));replace HO_7:=am (Kd.R_elder' qq17 (Kd.R_base ho0) hb);replace BK260:=am (blk_below (g:=gb260) (o:=.cells #[.int .i64 a0_0,.int .i64 a0_1,.slice A0_2 l0_2.length c0_2] 51 (0,0)) (by (with_reducible repeat (first | refine dN ?_ _ | refine dD ?_ | refine dA ?_ _));refine blk_far ?_ NB260_266.out _;(with_reducible repeat (first | refine dN ?_ _ | refine dD ?_ | refine dA ?_ _));refine blk_far ?_ NB260_266.out _;(with_reducible repeat (first | refine dN ?_ _ | refine dD ?_ | refine dA ?_ _));exact BK260.out) hb);replace BK266:=am (blk_below (g:=gb266) (o:=.cells #[.int .i64 ((rd_T76 l2 x19_1).f0),.int .i64 ((rd_T76 l2 x19_1).f1)] 76 (0,0)) (by (with_reducible repeat (first | refine dN ?_ _ | refine dD ?_ | refine dA ?_ _));refine blk_put (cs:=#[.int .i64 ((rd_T76 l2 x19_1).f0),.int .i64 0]) ?_ 1 _ rfl;(with_reducible repeat (first | refine dN ?_ _ | refine dD ?_ | refine dA ?_ _));refine blk_put (cs:=#[.int .i64 0,.int .i64 0]) ?_ 0 _ rfl;(with_reducible repeat (first | refine dN ?_ _ | refine dD ?_ | refine dA ?_ _));exact BK266.out) hb);replace HB:=am (below_step qq101 hb);(try clear hb);(try clear hb2);(try clear hk);(try clear hi);(try clear ho0);obtain ⟨Ao23,co23,eo23⟩:=Kd.R_slice HO269.out;subst eo23;have q22 : (1 : Int) ≤ ((t267.length : Int) : Int):=odt qq309;obtain ⟨i022,hi022,_,hsz22,_⟩:=info_parts info3;have hroom22 : t267.length ≤ co23:=(Kd.R_reads' HO269.out).2.1;have hC22 : Kd.C (Kd.int .i64) _ Ao23 t267.length t267:=(Kd.R_reads' HO269.out).2.2;have hcut22:=cut_from (P:=Try.prog) 49 3 .i64 Try.underlying49 hi022 1 hsz22 Ao23 t267.length co23 1 (by omega) q22;have hr22:=Kd.C_drop (m:=(1 : Int).toNat) (c:=co23) hC22 (by omega) hroom22;obtain ⟨A22,hA22⟩ : ∃ A1,A1 = (if co23 = (1 : Int).toNat then Ao23 else (Ao23 : Option Addr).map (·.add ((1 : Int).toNat * 1))):=⟨_,rfl⟩;obtain ⟨c22,hc22⟩ : ∃ c1,c1 = co23 - (1 : Int).toNat:=⟨_,rfl⟩;have hy22 : y270.length = t267.length - (1 : Int).toNat:=(by rw [Ny270.out,List.length_drop] <;> omega);rw [show (t267).drop (1 : Int).toNat = y270 from Ny270.out.symm] at hr22;replace hr22 : Kd.C (Kd.int .i64) _ A22 y270.length y270:=(by rw [hA22];exact hr22);rw [← hy22,← hA22,← hc22] at hcut22;have HR273:=am hr22;have HC273:=am (show y270.length ≤ c22 from by rw [hy22,hc22];exact Nat.sub_le_sub_right hroom22 _);clear hr22 hC22 hroom22 hi022 hsz22 hc22;have KY22:=am hy22;have KA22:=am hA22;clear hy22 hA22;have KL22:=am (show 1 ≤ t267.length from by omega);replace q22:=eq_true q22) | ((with_reducible refine gate_builtin (b:=.append) (xs:=#[.tmp 23,.tmp 29]) rfl ?_);at_builtin;refine Kd.R_append_rows (Kd.int .i64) (w0:=w) w.heap.size rfl (.tmp 23) (.tmp 29) 49 3 (.int .i64 0) 8 rfl Try.underlying49 info3 rfl (by decide) (by omega) u7 x7_1 y270 _ _ _ (fun k_ => some k_ ≠ (.slice Ao23 t267.length co23 : Value).ownBlock) (fun _ => False) rfl rfl ?aO ?aR (fun _ _ h => h) (fun _ h => h.elim) ?aF ?aB ?aS ?aL ?_;(case aR => repeat (first | exact (by repeat (first | (with_reducible exact HR273.out) | (with_reducible refine cA ?_ _) | (with_reducible refine cN ?_ _) | (with_reducible refine cD ?_) | exact HR273.out)) | (with_reducible refine cA ?_ _) | (with_reducible refine cN ?_ _) | (with_reducible refine cD ?_)));(case aB => exact qq74);(case aF => exact (fun k_ hk => Kd.fresh' (Kd.R_lt qq292) k_ hk));(case aO => exact qq193);(case aS => exact qq72);(case aL => have:=LMc16.out;omega);intro v275 w24 ho hb hg hat;rw [← Ny274.out] at ho;replace BK260:=am qq342;replace BK266:=am qq337;replace HB:=am (hb);replace HR273:=am ((show Kd.C (Kd.int .i64) w24 A22 y270.length y270 from by rw [Ny270.out,KA22.out];exact Kd.C_drop (m:=1) (c:=co23) ((Kd.R_reads' (Kd.R_after (ok:=(fun _ => True)) qq292 hg hat)).2.2) KL22.out ((Kd.R_reads' (Kd.R_after (ok:=(fun _ => True)) qq292 hg hat)).2.1)));replace HO269:=am (Kd.R_after (ok:=(fun _ => True)) qq292 hg hat);have HO276:=am (ho);clear HO_7;clear ho hb hg hat;obtain ⟨hcz25_0,hcz25_1,hfz25_0,hfz25_1⟩:=bcl2 BK266.out))
         go_loopg [7,33] k1 (fun kq v7 v33 w' => ∃ (x7_2 : List Int) (x33_2 : Int),v33 = .int .i64 x33_2 ∧ Aside0 (impl_PlanCells.l1 kq x7_2 l2 (l2.length : Int) x19_1 ((rd_T76 l2 x19_1).f1) x33_2 a0_0 a0_1 l0_2 ((rd_T76 l2 x19_1).f0) ((rd_T76 l2 x19_1).f1) = some r) ∧ Aside0 (kq ≤ k1) ∧ Aside0 (Kd.R (Kd.int .i64) 3 w' w.heap.size (fun _ => True) v7 x7_2) ∧ Aside0 (w'.heap[gb260]? = some (.cells #[.int .i64 a0_0,.int .i64 a0_1,(.slice A0_2 l0_2.length c0_2)] 51 (0,0))) ∧ Aside0 (w'.heap[gb266]? = some (.cells #[.int .i64 ((rd_T76 l2 x19_1).f0),.int .i64 ((rd_T76 l2 x19_1).f1)] 76 (0,0))) ∧ Aside0 (Below w.heap.size w w'))
         case atStart => exact ⟨(y274),(0),qq311,H',⟨Nat.le_refl _⟩,⟨by (with_reducible repeat (first | apply kA | apply kN | apply kD));exact Kd.R_mono HO276.out (fun _ hk => trivial)⟩,⟨qq250⟩,⟨qq249⟩,⟨qq101⟩⟩
         case round =>
          clear H'
          try clear c1
          try clear c2
          try clear p2
          try clear q2
          try clear hx2
          try clear c4
          try clear c5
          try clear c9
          try clear c11
          try clear c11b0
          try clear c12
          try clear c12b0
          try clear c13
          try clear c13b0
          try clear c15
          try clear c15b0
          try clear c15b1
          try clear c16
          try clear c18
          try clear c22
          try clear q22
          try clear hcz19_0
          try clear hcz19_1
          try clear hcz20_0
          try clear hcz20_1
          try clear hcz20_2
          try clear hcz25_0
          try clear hcz25_1
          try clear hcz7_0
          try clear hcz7_1
          try clear hcz7_2
          try clear hfz19_0
          try clear hfz19_1
          try clear hfz20_0
          try clear hfz20_1
          try clear hfz20_2
          try clear hfz25_0
          try clear hfz25_1
          try clear hfz7_0
          try clear hfz7_1
          try clear hfz7_2
          try clear hx265_0
          try clear hx265_1
          try clear p2
          try clear p265
          try clear q22
          try clear q265
          obtain ⟨x7_2,x33_2,rfl,HA,HK2,HO_7,BK260,BK266,HB⟩:=hrel
          cases gk with
          | zero => exact absurd HA.out (by simp [impl_PlanCells.l1])
          | succ k2 =>
           have H:=HA.out;clear HA;simp only [impl_PlanCells.l1] at H
           by_cases c26 : x33_2 < ((rd_T76 l2 x19_1).f1)
           ·rw [if_pos c26] at H;have c26b0 : decide (x33_2 < ((rd_T76 l2 x19_1).f1)) = true:=decide_eq_true c26;clear c26
            by_cases c27 : x7_2.length < 17592186044416
            ·rw [if_pos c27] at H;have LMc27:=am c27;clear c27;obtain ⟨y277,hy277⟩ : ∃ y_ : List Int,y_ = (x7_2 ++ [((rd_T76 l2 x19_1).f0)]):=⟨_,rfl⟩
             replace H : (impl_PlanCells.l1 k2 y277 l2 (l2.length : Int) x19_1 ((rd_T76 l2 x19_1).f1) (wrap64 (x33_2 + 1)) a0_0 a0_1 l0_2 ((rd_T76 l2 x19_1).f0) ((rd_T76 l2 x19_1).f1)) = some r:=by first | (rw [hy277];with_reducible exact H) | (have H2_:=(Option.bind_some _ _).symm.trans H;rw [hy277];with_reducible exact H2_) | (have H2_:=(Option.bind_some _ _).symm.trans H;with_reducible exact H2_) | with_reducible exact H | (rw [hy277];exact H) | exact H
             have Ny277:=am hy277;clear hy277;have H':=am H;clear H;have hnb28:=NB266_260.out;have hnc28:=NB260_266.out;obtain ⟨hcz29_0,hcz29_1,hfz29_0,hfz29_1⟩:=bcl2 BK266.out;go_wp2_with (first | ((with_reducible refine gate_builtin (b:=.append) (xs:=#[.tmp 35,.tmp 38]) rfl ?_);at_builtin;refine Kd.R_append (Kd.int .i64) (w0:=w) w.heap.size rfl (.tmp 35) (.tmp 38) 49 3 (.int .i64 0) 8 rfl Try.underlying49 info3 rfl (by decide) (by omega) u7 x7_2 ((rd_T76 l2 x19_1).f0) [.int .i64 ((rd_T76 l2 x19_1).f0)] (fun _ => True) (fun _ => False) rfl rfl ?aP (fun _ hk => hk.elim) ?aF ?aO ?aB ?aS ?aL ?_;(case aP => exact rfl);(case aB => exact qq74);(case aF => exact qq328);(case aO => exact qq268);(case aS => exact qq72);(case aL => have:=LMc27.out;omega);intro v278 w30 ho hb hg hat;rw [← Ny277.out] at ho;replace BK260:=am qq342;replace BK266:=am qq337;replace HB:=am (hb);have HO279:=am (ho);clear HO_7;clear ho hb hg hat))
             go_roundg k2
             case measure => have:=HK1.out;have:=HK2.out;omega
             case rel => exact ⟨(y277),(wrap64 (x33_2 + 1)),qq311,H',⟨qq314⟩,⟨by (with_reducible repeat (first | apply kA | apply kN | apply kD));exact HO279.out⟩,⟨qq250⟩,⟨qq249⟩,⟨qq101⟩⟩
            ·rw [if_neg c27] at H;exact absurd H (by simp)
           ·rw [if_neg c26] at H;have c26b0 : decide (x33_2 < ((rd_T76 l2 x19_1).f1)) = false:=decide_eq_false c26;clear c26;have H':=am H;clear H;have hnb31:=NB266_260.out;have hnc31:=NB260_266.out;obtain ⟨hcz32_0,hcz32_1,hfz32_0,hfz32_1⟩:=bcl2 BK266.out;go_wp2
            go_roundg k2
            case measure => have:=HK1.out;have:=HK2.out;omega
            case rel => exact ⟨(((rd_T76 l2 x19_1).f0)),(x7_2),(wrap64 (x19_1 + 1)),qq311,qq311,H',⟨qq314⟩,⟨qq302⟩,⟨qq250⟩,⟨qq101⟩⟩
        ·rw [if_neg c16] at H;exact absurd H (by simp)
       ·rw [if_neg c15] at H;exact absurd H (by simp)
      ·rw [if_neg c13] at H;exact absurd H (by simp)
     ·rw [if_neg c12] at H;exact absurd H (by simp)
    ·rw [if_neg c11] at H;have c11b0 : decide (x19_1 < (l2.length : Int)) = false:=decide_eq_false c11;clear c11;obtain rfl:=Option.some.inj H;go_wp2
     go_ret
     exact ⟨_,qq263,qq302,qq173⟩
 ·replace c5:=Bool.eq_false_iff.mpr c5;subst c5;have H1 : (some ([] : List Int)) = some r:=by rw [if_neg (show ¬ (false = true) by decide)] at H;exact H
  clear H;have H:=H1;clear H1;obtain rfl:=Option.some.inj H
  go_enter Try.func45,Try.ntmps45
  go_wp2_with (first | ((with_reducible refine gate_dst (N:=3) rfl ?_);refine box_event ?hg (N:=3) ?hd (cs:=#[.int .i64 a0_0,.int .i64 a0_1,.slice A0_2 l0_2.length c0_2]) (t:=51) ?hr ?_;(case hd => rfl);(case hg => rfl);(case hr => exact qq312);intro gb260 hg w33 hbox hb;have BK260:=am (hbox);have GW260:=am qq440;have GE260:=am qq440;replace HB:=am qq488;clear hb hbox hg;obtain ⟨hcz34_0,hcz34_1,hcz34_2,hfz34_0,hfz34_1,hfz34_2⟩:=bcl3 BK260.out) | ((with_reducible refine gate_callee (f:=46) rfl ?_);refine goesL_ (some 13) rfl rfl Try.func46 (by kernel_rfl) rfl #[.agg #[.int .i64 a0_0,.int .i64 a0_1,.slice A0_2 l0_2.length c0_2],.int .i64 a1,.slice A2 l2.length c2] rfl qq187 ?_;(with_reducible refine (impl_IsPlan.calls k a0_0 a0_1 _ _ l0_2 a1 _ _ l2 false _ ?side1 ?side2 ?side3 ?side4 A4.out).mono ?_);(case side1 => exact qq117);(case side2 => exact qq334);(case side3 => exact qq131);(case side4 => exact HC2.out);rintro e w35 ⟨rfl,hb⟩;refine ⟨_,rfl,?_⟩;replace BK260:=am qq374;replace HB:=am (below_step qq173 hb);(try clear hb);(try clear hb2);(try clear hk);(try clear hi)))
  go_ret
  exact ⟨_,qq263,qq142,qq173⟩

/-! ### impl_PlanDays: function 47 -/
def impl_PlanDays.f (k : Nat) (a0_0 : Int) (a0_1 : Int) (l0_2 : List Int) (a1 : Int) (l2 : List (S76)) : Option (Int) := (impl_PlanCells.f k a0_0 a0_1 l0_2 a1 l2).bind fun t281 => (some (wrap64 ((t281.length : Int) - 1)))
set_option maxHeartbeats 8000000 in
set_option maxRecDepth 100000 in
theorem impl_PlanDays.calls (k : Nat) (a0_0 : Int) (a0_1 : Int) (A0_2 : Option Addr) (c0_2 : Nat) (l0_2 : List Int) (a1 : Int) (A2 : Option Addr) (c2 : Nat) (l2 : List (S76)) (r : Int) (w : World) (hr0_2 : Kd.C (Kd.int .i64) w A0_2 l0_2.length l0_2) (hc0_2 : l0_2.length ≤ c0_2) (hr2 : Kd.C k76 w A2 l2.length l2) (hc2 : l2.length ≤ c2) (h : impl_PlanDays.f k a0_0 a0_1 l0_2 a1 l2 = some r) :
  Calls Try.prog 47 #[.agg #[.int .i64 a0_0,.int .i64 a0_1,.slice A0_2 l0_2.length c0_2],.int .i64 a1,.slice A2 l2.length c2] w fun e w' => e = .returned (.int .i64 r) ∧ Below w.heap.size w w':=by
 have hu51:=Try.underlying51;have HR0_2:=am hr0_2;have HC0_2:=am hc0_2;clear hr0_2 hc0_2;have HR2:=am hr2;have HC2:=am hc2;clear hr2 hc2;have HB:=am qq465;have H : ((impl_PlanCells.f k a0_0 a0_1 l0_2 a1 l2).bind fun t281 => (some (wrap64 ((t281.length : Int) - 1)))) = some r:=h;clear h;replace H:=bS.mp H;obtain ⟨t281,A40,H⟩:=H;(try dsimp only at H);have A4:=am A40;clear A40;obtain rfl:=Option.some.inj H
 go_enter Try.func47,Try.ntmps47
 go_wp2_with (first | ((with_reducible refine gate_dst (N:=3) rfl ?_);refine box_event ?hg (N:=3) ?hd (cs:=#[.int .i64 a0_0,.int .i64 a0_1,.slice A0_2 l0_2.length c0_2]) (t:=51) ?hr ?_;(case hd => rfl);(case hg => rfl);(case hr => exact qq312);intro gb280 hg w5 hbox hb;have BK280:=am (hbox);have GW280:=am ((qq144 : w.heap.size ≤ gb280));have GE280:=am ((qq144 : w.heap.size ≤ gb280));replace HB:=am qq488;clear hb hbox hg;obtain ⟨hcz6_0,hcz6_1,hcz6_2,hfz6_0,hfz6_1,hfz6_2⟩:=bcl3 BK280.out) | ((with_reducible refine gate_callee (f:=45) rfl ?_);refine goesL_ (some 10) rfl rfl Try.func45 (by kernel_rfl) rfl #[.agg #[.int .i64 a0_0,.int .i64 a0_1,.slice A0_2 l0_2.length c0_2],.int .i64 a1,.slice A2 l2.length c2] rfl qq187 ?_;(with_reducible refine (impl_PlanCells.calls k a0_0 a0_1 _ _ l0_2 a1 _ _ l2 t281 _ ?side1 ?side2 ?side3 ?side4 A4.out).mono ?_);(case side1 => exact qq117);(case side2 => exact qq334);(case side3 => exact qq131);(case side4 => exact HC2.out);rintro e w7 ⟨v282,rfl,ho0,hb⟩;refine ⟨_,rfl,?_⟩;have HO283:=am (Kd.R_lower ho0 (below_size qq172));replace BK280:=am (blk_below (g:=gb280) (o:=.cells #[.int .i64 a0_0,.int .i64 a0_1,.slice A0_2 l0_2.length c0_2] 51 (0,0)) (by (with_reducible repeat (first | refine dN ?_ _ | refine dD ?_ | refine dA ?_ _));exact BK280.out) hb);replace HB:=am (below_step qq172 hb);(try clear hb);(try clear hb2);(try clear hk);(try clear hi);(try clear ho0);obtain ⟨Ao8,co8,eo8⟩:=Kd.R_slice HO283.out;subst eo8))
 go_ret
 exact ⟨qq263,qq172⟩

/-! ### impl_PlanFood: function 52 -/
def impl_PlanFood.j0 : Nat → Int → Bool → Int → Int → Int → Int → List (S112) → List Bool → Option (Int)
 | 0,_,_,_,_,_,_,_,_ => none
 | k + 1,x11,x24,x286000,x286001,x287000,x287001,x287002,x287003 => if x24 = true then (some (-1)) else ((impl_WorstDays.f k x286000 x286001 x287003 x11).bind fun t289 => (if t289 < 0 then (some (-1)) else ((impl_NeedOf.f k x287002).bind fun t290 => (some (wrap64 (t289 * t290))))))
def impl_PlanFood.f (k : Nat) (a0_0 : Int) (a0_1 : Int) (l0_2 : List Int) (a1 : Int) (l2 : List (S76)) (a3_0 : Int) (a3_1 : Int) (a4_0 : Int) (a4_1 : Int) (l4_2 : List (S112)) (l4_3 : List Bool) : Option (Int) := (impl_PlanDays.f k a0_0 a0_1 l0_2 a1 l2).bind fun t287 => (if t287 < 0 then (impl_PlanFood.j0 k t287 true a3_0 a3_1 a4_0 a4_1 l4_2 l4_3) else ((impl_AreCrew.f k l4_2).bind fun t288 => (impl_PlanFood.j0 k t287 (!t288) a3_0 a3_1 a4_0 a4_1 l4_2 l4_3)))
set_option maxHeartbeats 8000000 in
set_option maxRecDepth 100000 in
theorem impl_PlanFood.calls (k : Nat) (a0_0 : Int) (a0_1 : Int) (A0_2 : Option Addr) (c0_2 : Nat) (l0_2 : List Int) (a1 : Int) (A2 : Option Addr) (c2 : Nat) (l2 : List (S76)) (a3_0 : Int) (a3_1 : Int) (a4_0 : Int) (a4_1 : Int) (A4_2 : Option Addr) (c4_2 : Nat) (l4_2 : List (S112)) (A4_3 : Option Addr) (c4_3 : Nat) (l4_3 : List Bool) (r : Int) (w : World) (hr0_2 : Kd.C (Kd.int .i64) w A0_2 l0_2.length l0_2) (hc0_2 : l0_2.length ≤ c0_2) (hr2 : Kd.C k76 w A2 l2.length l2) (hc2 : l2.length ≤ c2) (hr4_2 : Kd.C k112 w A4_2 l4_2.length l4_2) (hc4_2 : l4_2.length ≤ c4_2) (hr4_3 : Kd.C Kd.bool w A4_3 l4_3.length l4_3) (hc4_3 : l4_3.length ≤ c4_3) (h : impl_PlanFood.f k a0_0 a0_1 l0_2 a1 l2 a3_0 a3_1 a4_0 a4_1 l4_2 l4_3 = some r) :
  Calls Try.prog 52 #[.agg #[.int .i64 a0_0,.int .i64 a0_1,.slice A0_2 l0_2.length c0_2],.int .i64 a1,.slice A2 l2.length c2,.agg #[.int .i64 a3_0,.int .i64 a3_1],.agg #[.int .i64 a4_0,.int .i64 a4_1,.slice A4_2 l4_2.length c4_2,.slice A4_3 l4_3.length c4_3]] w fun e w' => e = .returned (.int .i64 r) ∧ Below w.heap.size w w':=by
 have hu51:=Try.underlying51;have hu37:=Try.underlying37;have hu27:=Try.underlying27;have HR0_2:=am hr0_2;have HC0_2:=am hc0_2;clear hr0_2 hc0_2;have HR2:=am hr2;have HC2:=am hc2;clear hr2 hc2;have HR4_2:=am hr4_2;have HC4_2:=am hc4_2;clear hr4_2 hc4_2;have HR4_3:=am hr4_3;have HC4_3:=am hc4_3;clear hr4_3 hc4_3;have HB:=am qq465;have H : ((impl_PlanDays.f k a0_0 a0_1 l0_2 a1 l2).bind fun t287 => (if t287 < 0 then (impl_PlanFood.j0 k t287 true a3_0 a3_1 a4_0 a4_1 l4_2 l4_3) else ((impl_AreCrew.f k l4_2).bind fun t288 => (impl_PlanFood.j0 k t287 (!t288) a3_0 a3_1 a4_0 a4_1 l4_2 l4_3)))) = some r:=h;clear h;replace H:=bS.mp H;obtain ⟨t287,A60,H⟩:=H;(try dsimp only at H);have A6:=am A60;clear A60;have HC7:=am H;clear H
 go_enter Try.func52,Try.ntmps52
 go_upto_region 2 with (first | ((with_reducible refine gate_dst (N:=5) rfl ?_);refine box_event ?hg (N:=5) ?hd (cs:=#[.int .i64 a0_0,.int .i64 a0_1,.slice A0_2 l0_2.length c0_2]) (t:=51) ?hr ?_;(case hd => rfl);(case hg => rfl);(case hr => exact qq312);intro gb284 hg w8 hbox hb;have BK284:=am (hbox);have GW284:=am ((qq144 : w.heap.size ≤ gb284));have GE284:=am ((qq144 : w.heap.size ≤ gb284));replace HB:=am qq488;clear hb hbox hg) | ((with_reducible refine gate_dst (N:=8) rfl ?_);refine box_event ?hg (N:=8) ?hd (cs:=#[.int .i64 a3_0,.int .i64 a3_1]) (t:=37) ?hr ?_;(case hd => rfl);(case hg => rfl);(case hr => exact qq312);intro gb285 hg w9 hbox hb;have BK285:=am (hbox);have GW285:=am ((qq86 : w.heap.size ≤ gb285));have GE285:=am ((qq86 : w.heap.size ≤ gb285));replace HB:=am (below_step qq171 hb);have NB284_285:=am ((qq35 : gb284 ≠ gb285));have NB285_284:=am ((qq41 : gb285 ≠ gb284));replace BK284:=am qq375;clear hb hbox hg) | ((with_reducible refine gate_dst (N:=9) rfl ?_);refine box_event ?hg (N:=9) ?hd (cs:=#[.int .i64 a4_0,.int .i64 a4_1,.slice A4_2 l4_2.length c4_2,.slice A4_3 l4_3.length c4_3]) (t:=27) ?hr ?_;(case hd => rfl);(case hg => rfl);(case hr => exact qq312);intro gb286 hg w10 hbox hb;have BK286:=am (hbox);have GW286:=am ((qq65 : w.heap.size ≤ gb286));have GE286:=am ((qq65 : w.heap.size ≤ gb286));replace HB:=am (below_step qq100 hb);have NB284_286:=am ((qq35 : gb284 ≠ gb286));have NB286_284:=am ((qq41 : gb286 ≠ gb284));replace BK284:=am qq375;have NB285_286:=am ((by rw [hg];exact Nat.ne_of_lt (blk_lt (g:=gb285) (o:=.cells #[.int .i64 a3_0,.int .i64 a3_1] 37 (0,0)) qq247) : gb285 ≠ gb286));have NB286_285:=am ((by rw [hg];exact Nat.ne_of_gt (blk_lt (g:=gb285) (o:=.cells #[.int .i64 a3_0,.int .i64 a3_1] 37 (0,0)) qq247) : gb286 ≠ gb285));replace BK285:=am qq407;clear hb hbox hg;have hnb11:=NB284_285.out;have hnc11:=NB285_284.out;have hnb12:=NB284_286.out;have hnc12:=NB286_284.out;obtain ⟨hcz13_0,hcz13_1,hcz13_2,hfz13_0,hfz13_1,hfz13_2⟩:=bcl3 BK284.out) | ((with_reducible refine gate_callee (f:=47) rfl ?_);refine goesL_ (some 16) rfl rfl Try.func47 (by kernel_rfl) rfl #[.agg #[.int .i64 a0_0,.int .i64 a0_1,.slice A0_2 l0_2.length c0_2],.int .i64 a1,.slice A2 l2.length c2] rfl qq187 ?_;(with_reducible refine (impl_PlanDays.calls k a0_0 a0_1 _ _ l0_2 a1 _ _ l2 t287 _ ?side1 ?side2 ?side3 ?side4 A6.out).mono ?_);(case side1 => exact qq117);(case side2 => exact qq334);(case side3 => exact qq131);(case side4 => exact HC2.out);rintro e w14 ⟨rfl,hb⟩;refine ⟨_,rfl,?_⟩;replace BK284:=am qq375;replace BK285:=am qq407;replace BK286:=am qq351;replace HB:=am (below_step qq70 hb);(try clear hb);(try clear hb2);(try clear hk);(try clear hi)))
 (try simp only [Act.put,sA,s0,s1])
 go_cut [24] (fun v24 wc => ∃ (kq : Nat) (x24_6 : Bool),v24 = .bool x24_6 ∧ Aside0 (impl_PlanFood.j0 kq t287 x24_6 a3_0 a3_1 a4_0 a4_1 l4_2 l4_3 = some r) ∧ Aside0 (kq ≤ k) ∧ Aside0 (wc.heap[gb284]? = some (.cells #[.int .i64 a0_0,.int .i64 a0_1,(.slice A0_2 l0_2.length c0_2)] 51 (0,0))) ∧ Aside0 (wc.heap[gb285]? = some (.cells #[.int .i64 a3_0,.int .i64 a3_1] 37 (0,0))) ∧ Aside0 (wc.heap[gb286]? = some (.cells #[.int .i64 a4_0,.int .i64 a4_1,(.slice A4_2 l4_2.length c4_2),(.slice A4_3 l4_3.length c4_3)] 27 (0,0))) ∧ Aside0 (Below w.heap.size w wc))
 case first =>
  have H:=HC7.out;clear HC7
  by_cases c15 : t287 < 0
  ·rw [if_pos c15] at H;have c15b0 : decide (t287 < 0) = true:=decide_eq_true c15;clear c15;(first | rw [c15b0] | (simp only [i64_w,i32_w];rw [c15b0]) | skip);have H':=am H;clear H;go_wp2
   go_meet
   case rel => exact ⟨_,(true),qq311,H',⟨qq313⟩,⟨qq248⟩,⟨qq247⟩,⟨qq246⟩,⟨qq70⟩⟩
  ·rw [if_neg c15] at H;have c15b0 : decide (t287 < 0) = false:=decide_eq_false c15;clear c15;(first | rw [c15b0] | (simp only [i64_w,i32_w];rw [c15b0]) | skip);replace H:=bS.mp H;obtain ⟨t288,A160,H⟩:=H;(try dsimp only at H);have A16:=am A160;clear A160;have H':=am H;clear H;have hnb17:=NB286_284.out;have hnc17:=NB284_286.out;have hnb18:=NB286_285.out;have hnc18:=NB285_286.out;obtain ⟨hcz19_0,hcz19_1,hcz19_2,hcz19_3,hfz19_0,hfz19_1,hfz19_2,hfz19_3⟩:=bcl4 BK286.out;go_wp2_with (first | (go_at_call 75;(with_reducible refine (impl_AreCrew.calls k _ _ l4_2 t288 _ ?side1 ?side2 A16.out).mono ?_);(case side1 => exact qq113);(case side2 => exact qq333);rintro e w20 ⟨rfl,hb⟩;replace BK284:=am qq375;replace BK285:=am qq407;replace BK286:=am qq351;replace HB:=am (below_step qq70 hb);(try clear hb);(try clear hb2);(try clear hk);(try clear hi)))
   go_meet
   case rel => exact ⟨_,(!t288),qq311,H',⟨qq313⟩,⟨qq248⟩,⟨qq247⟩,⟨qq246⟩,⟨qq70⟩⟩
 case rest =>
  clear HC7
  try clear c1
  try clear c2
  try clear p2
  try clear c4
  try clear c5
  try clear c11
  try clear c12
  try clear c15
  try clear c15b0
  try clear c17
  try clear c18
  try clear hcz13_0
  try clear hcz13_1
  try clear hcz13_2
  try clear hcz19_0
  try clear hcz19_1
  try clear hcz19_2
  try clear hcz19_3
  try clear hfz13_0
  try clear hfz13_1
  try clear hfz13_2
  try clear hfz19_0
  try clear hfz19_1
  try clear hfz19_2
  try clear hfz19_3
  obtain ⟨kq,x24_6,rfl,HA,HJ6,BK284,BK285,BK286,HB⟩:=hcut
  cases kq with
  | zero => exact absurd HA.out (by simp [impl_PlanFood.j0])
  | succ kj6 =>
   have H:=HA.out;clear HA;simp only [impl_PlanFood.j0] at H
   by_cases c21 : x24_6 = true
   ·subst c21;rw [if_pos rfl] at H;obtain rfl:=Option.some.inj H;go_wp2
    go_ret
    exact ⟨qq263,qq70⟩
   ·replace c21:=Bool.eq_false_iff.mpr c21;subst c21;have H1 : ((impl_WorstDays.f kj6 a3_0 a3_1 l4_3 t287).bind fun t289 => (if t289 < 0 then (some (-1)) else ((impl_NeedOf.f kj6 l4_2).bind fun t290 => (some (wrap64 (t289 * t290)))))) = some r:=by rw [if_neg (show ¬ (false = true) by decide)] at H;exact H
    clear H;have H:=H1;clear H1;replace H:=bS.mp H;obtain ⟨t289,A220,H⟩:=H;(try dsimp only at H);have A22:=am A220;clear A220
    by_cases c23 : t289 < 0
    ·rw [if_pos c23] at H;have c23b0 : decide (t289 < 0) = true:=decide_eq_true c23;clear c23;obtain rfl:=Option.some.inj H;have hnb24:=NB285_284.out;have hnc24:=NB284_285.out;have hnb25:=NB285_286.out;have hnc25:=NB286_285.out;obtain ⟨hcz26_0,hcz26_1,hfz26_0,hfz26_1⟩:=bcl2 BK285.out;have hnb27:=NB286_284.out;have hnc27:=NB284_286.out;obtain ⟨hcz28_0,hcz28_1,hcz28_2,hcz28_3,hfz28_0,hfz28_1,hfz28_2,hfz28_3⟩:=bcl4 BK286.out;go_wp2_with (first | ((with_reducible refine gate_callee (f:=23) rfl ?_);refine goesL_ (some 29) rfl rfl Try.func23 (by kernel_rfl) rfl #[.agg #[.int .i64 a3_0,.int .i64 a3_1],.slice A4_3 l4_3.length c4_3,.int .i64 t287] rfl qq187 ?_;(with_reducible refine (impl_WorstDays.calls kj6 a3_0 a3_1 (fun k_ => k_ < w.heap.size) _ _ l4_3 t287 t289 _ ?side1 A22.out).mono ?_);(case side1 => exact qq19);rintro e w29 ⟨rfl,hb⟩;refine ⟨_,rfl,?_⟩;replace BK284:=am qq375;replace BK285:=am qq407;replace BK286:=am qq351;replace HB:=am (below_step qq70 hb);(try clear hb);(try clear hb2);(try clear hk);(try clear hi)))
     go_ret
     exact ⟨qq263,qq70⟩
    ·rw [if_neg c23] at H;have c23b0 : decide (t289 < 0) = false:=decide_eq_false c23;clear c23;replace H:=bS.mp H;obtain ⟨t290,A300,H⟩:=H;(try dsimp only at H);have A30:=am A300;clear A300;obtain rfl:=Option.some.inj H;have hnb31:=NB285_284.out;have hnc31:=NB284_285.out;have hnb32:=NB285_286.out;have hnc32:=NB286_285.out;obtain ⟨hcz33_0,hcz33_1,hfz33_0,hfz33_1⟩:=bcl2 BK285.out;have hnb34:=NB286_284.out;have hnc34:=NB284_286.out;obtain ⟨hcz35_0,hcz35_1,hcz35_2,hcz35_3,hfz35_0,hfz35_1,hfz35_2,hfz35_3⟩:=bcl4 BK286.out;go_wp2_with (first | ((with_reducible refine gate_callee (f:=23) rfl ?_);refine goesL_ (some 29) rfl rfl Try.func23 (by kernel_rfl) rfl #[.agg #[.int .i64 a3_0,.int .i64 a3_1],.slice A4_3 l4_3.length c4_3,.int .i64 t287] rfl qq187 ?_;(with_reducible refine (impl_WorstDays.calls kj6 a3_0 a3_1 (fun k_ => k_ < w.heap.size) _ _ l4_3 t287 t289 _ ?side1 A22.out).mono ?_);(case side1 => exact qq19);rintro e w36 ⟨rfl,hb⟩;refine ⟨_,rfl,?_⟩;replace BK284:=am qq375;replace BK285:=am qq407;replace BK286:=am qq351;replace HB:=am (below_step qq70 hb);(try clear hb);(try clear hb2);(try clear hk);(try clear hi);obtain ⟨hcz37_0,hcz37_1,hcz37_2,hcz37_3,hfz37_0,hfz37_1,hfz37_2,hfz37_3⟩:=bcl4 BK286.out) | ((with_reducible refine gate_callee (f:=19) rfl ?_);refine goesL_ (some 35) rfl rfl Try.func19 (by kernel_rfl) rfl #[.slice A4_2 l4_2.length c4_2] rfl qq187 ?_;(with_reducible refine (impl_NeedOf.calls kj6 _ _ l4_2 t290 _ ?side1 ?side2 A30.out).mono ?_);(case side1 => exact qq113);(case side2 => exact qq333);rintro e w38 ⟨rfl,hb⟩;refine ⟨_,rfl,?_⟩;replace BK284:=am qq375;replace BK285:=am qq407;replace BK286:=am qq351;replace HB:=am (below_step qq70 hb);(try clear hb);(try clear hb2);(try clear hk);(try clear hi)))
     go_ret
     exact ⟨qq263,qq70⟩

/-! ### laws_szIntS: function 102 -/
def laws_szIntS.f (l0 : List Int) (a1 : Int) : Option (Int) := if (wrap64 (a1 - (l0.length : Int))) < 0 then (some (-1)) else (some (wrap64 (a1 - (l0.length : Int))))
set_option maxHeartbeats 8000000 in
set_option maxRecDepth 100000 in
theorem laws_szIntS.calls (A0 : Option Addr) (c0 : Nat) (l0 : List Int) (a1 : Int) (r : Int) (w : World) (hr0 : Kd.C (Kd.int .i64) w A0 l0.length l0) (hc0 : l0.length ≤ c0) (h : laws_szIntS.f l0 a1 = some r) :
  Calls Try.prog 102 #[.slice A0 l0.length c0,.int .i64 a1] w fun e w' => e = .returned (.int .i64 r) ∧ Drawn0 w w':=by
 have HR0:=am hr0;have HC0:=am hc0;clear hr0 hc0;have H : (if (wrap64 (a1 - (l0.length : Int))) < 0 then (some (-1)) else (some (wrap64 (a1 - (l0.length : Int))))) = some r:=h;clear h
 by_cases c3 : (wrap64 (a1 - (l0.length : Int))) < 0
 ·rw [if_pos c3] at H;have c3b0 : decide ((wrap64 (a1 - (l0.length : Int))) < 0) = true:=decide_eq_true c3;clear c3;obtain rfl:=Option.some.inj H
  go_enter Try.func102,Try.ntmps102
  go_wp2
  go_ret
  exact ⟨qq311,qq307⟩
 ·rw [if_neg c3] at H;have c3b0 : decide ((wrap64 (a1 - (l0.length : Int))) < 0) = false:=decide_eq_false c3;clear c3;obtain rfl:=Option.some.inj H
  go_enter Try.func102,Try.ntmps102
  go_wp2
  go_ret
  exact ⟨qq311,qq307⟩

/-! ### laws_szLand: function 53 -/
def laws_szLand.f (a0_0 : Int) (a0_1 : Int) (l0_2 : List Int) (a1 : Int) : Option (Int) := (laws_szIntS.f l0_2 a1).bind fun t292 => (if t292 < 0 then (some (-1)) else (some t292))
set_option maxHeartbeats 8000000 in
set_option maxRecDepth 100000 in
theorem laws_szLand.calls (a0_0 : Int) (a0_1 : Int) (A0_2 : Option Addr) (c0_2 : Nat) (l0_2 : List Int) (a1 : Int) (r : Int) (w : World) (hr0_2 : Kd.C (Kd.int .i64) w A0_2 l0_2.length l0_2) (hc0_2 : l0_2.length ≤ c0_2) (h : laws_szLand.f a0_0 a0_1 l0_2 a1 = some r) :
  Calls Try.prog 53 #[.agg #[.int .i64 a0_0,.int .i64 a0_1,.slice A0_2 l0_2.length c0_2],.int .i64 a1] w fun e w' => e = .returned (.int .i64 r) ∧ Below w.heap.size w w':=by
 have hu81:=Try.underlying81;have HR0_2:=am hr0_2;have HC0_2:=am hc0_2;clear hr0_2 hc0_2;have HB:=am qq465;have H : ((laws_szIntS.f l0_2 a1).bind fun t292 => (if t292 < 0 then (some (-1)) else (some t292))) = some r:=h;clear h;replace H:=bS.mp H;obtain ⟨t292,A30,H⟩:=H;(try dsimp only at H);have A3:=am A30;clear A30
 by_cases c4 : t292 < 0
 ·rw [if_pos c4] at H;have c4b0 : decide (t292 < 0) = true:=decide_eq_true c4;clear c4;obtain rfl:=Option.some.inj H
  go_enter Try.func53,Try.ntmps53
  go_wp2_with (first | ((with_reducible refine gate_dst (N:=2) rfl ?_);refine box_event ?hg (N:=2) ?hd (cs:=#[.int .i64 a0_0,.int .i64 a0_1,.slice A0_2 l0_2.length c0_2]) (t:=81) ?hr ?_;(case hd => rfl);(case hg => rfl);(case hr => exact qq312);intro gb291 hg w5 hbox hb;have BK291:=am (hbox);have GW291:=am qq441;have GE291:=am qq441;replace HB:=am qq488;clear hb hbox hg;obtain ⟨hcz6_0,hcz6_1,hcz6_2,hfz6_0,hfz6_1,hfz6_2⟩:=bcl3 BK291.out) | ((with_reducible refine gate_callee (f:=102) rfl ?_);refine goesL_ (some 8) rfl rfl Try.func102 (by kernel_rfl) rfl #[.slice A0_2 l0_2.length c0_2,.int .i64 a1] rfl qq187 ?_;(with_reducible refine (laws_szIntS.calls _ _ l0_2 a1 t292 _ ?side1 ?side2 A3.out).mono ?_);(case side1 => exact qq117);(case side2 => exact qq334);rintro e w' ⟨rfl,⟨nd,rfl⟩⟩;refine ⟨_,rfl,?_⟩))
  go_ret
  exact ⟨qq263,qq170⟩
 ·rw [if_neg c4] at H;have c4b0 : decide (t292 < 0) = false:=decide_eq_false c4;clear c4;obtain rfl:=Option.some.inj H
  go_enter Try.func53,Try.ntmps53
  go_wp2_with (first | ((with_reducible refine gate_dst (N:=2) rfl ?_);refine box_event ?hg (N:=2) ?hd (cs:=#[.int .i64 a0_0,.int .i64 a0_1,.slice A0_2 l0_2.length c0_2]) (t:=81) ?hr ?_;(case hd => rfl);(case hg => rfl);(case hr => exact qq312);intro gb291 hg w7 hbox hb;have BK291:=am (hbox);have GW291:=am qq441;have GE291:=am qq441;replace HB:=am qq488;clear hb hbox hg;obtain ⟨hcz8_0,hcz8_1,hcz8_2,hfz8_0,hfz8_1,hfz8_2⟩:=bcl3 BK291.out) | ((with_reducible refine gate_callee (f:=102) rfl ?_);refine goesL_ (some 8) rfl rfl Try.func102 (by kernel_rfl) rfl #[.slice A0_2 l0_2.length c0_2,.int .i64 a1] rfl qq187 ?_;(with_reducible refine (laws_szIntS.calls _ _ l0_2 a1 t292 _ ?side1 ?side2 A3.out).mono ?_);(case side1 => exact qq117);(case side2 => exact qq334);rintro e w' ⟨rfl,⟨nd,rfl⟩⟩;refine ⟨_,rfl,?_⟩))
  go_ret
  exact ⟨qq263,qq170⟩

/-! ### laws_szLegS: function 54 -/
def laws_szLegS.f (l0 : List (S130)) (a1 : Int) : Option (Int) := if (wrap64 (a1 - (l0.length : Int))) < 0 then (some (-1)) else (some (wrap64 (a1 - (l0.length : Int))))
set_option maxHeartbeats 8000000 in
set_option maxRecDepth 100000 in
theorem laws_szLegS.calls (A0 : Option Addr) (c0 : Nat) (l0 : List (S130)) (a1 : Int) (r : Int) (w : World) (hr0 : Kd.C k130 w A0 l0.length l0) (hc0 : l0.length ≤ c0) (h : laws_szLegS.f l0 a1 = some r) :
  Calls Try.prog 54 #[.slice A0 l0.length c0,.int .i64 a1] w fun e w' => e = .returned (.int .i64 r) ∧ Drawn0 w w':=by
 have HR0:=am hr0;have HC0:=am hc0;clear hr0 hc0;have H : (if (wrap64 (a1 - (l0.length : Int))) < 0 then (some (-1)) else (some (wrap64 (a1 - (l0.length : Int))))) = some r:=h;clear h
 by_cases c3 : (wrap64 (a1 - (l0.length : Int))) < 0
 ·rw [if_pos c3] at H;have c3b0 : decide ((wrap64 (a1 - (l0.length : Int))) < 0) = true:=decide_eq_true c3;clear c3;obtain rfl:=Option.some.inj H
  go_enter Try.func54,Try.ntmps54
  go_wp2
  go_ret
  exact ⟨qq311,qq307⟩
 ·rw [if_neg c3] at H;have c3b0 : decide ((wrap64 (a1 - (l0.length : Int))) < 0) = false:=decide_eq_false c3;clear c3;obtain rfl:=Option.some.inj H
  go_enter Try.func54,Try.ntmps54
  go_wp2
  go_ret
  exact ⟨qq311,qq307⟩

/-! ### laws_toIntS: function 106 -/
def laws_toIntS.l0 : Nat → List Int → List Int → Int → Option (List Int)
 | 0,_,_,_ => none
 | k + 1,x0,x3,x4 => if x4 < (x0.length : Int) then (if 0 ≤ x4 then (if x4 < (x3.length : Int) then (laws_toIntS.l0 k x0 (x3.set (x4 : Int).toNat (rd x0 x4)) (wrap64 (x4 + 1))) else (none)) else (none)) else (some x3)
def laws_toIntS.f (k : Nat) (l0 : List Int) : Option (List Int) := if 0 ≤ (l0.length : Int) then (if ((l0.length : Int) : Int).toNat ≤ 35184372088832 then (laws_toIntS.l0 k l0 (List.replicate ((l0.length : Int) : Int).toNat 0) 0) else (none)) else (none)
set_option maxHeartbeats 8000000 in
set_option maxRecDepth 100000 in
theorem laws_toIntS.calls (k : Nat) (A0 : Option Addr) (c0 : Nat) (l0 : List Int) (r : List Int) (w : World) (hr0 : Kd.C (Kd.int .i64) w A0 l0.length l0) (hc0 : l0.length ≤ c0) (h : laws_toIntS.f k l0 = some r) :
  Calls Try.prog 106 #[.slice A0 l0.length c0] w fun e w' => ∃ v0_ : Value,e = .returned (v0_) ∧ Kd.R (Kd.int .i64) 3 w' w.heap.size (fun _ => True) v0_ r ∧ Below w.heap.size w w':=by
 have HR0:=am hr0;have HC0:=am hc0;clear hr0 hc0;have HB:=am qq465;have H : (if 0 ≤ (l0.length : Int) then (if ((l0.length : Int) : Int).toNat ≤ 35184372088832 then (laws_toIntS.l0 k l0 (List.replicate ((l0.length : Int) : Int).toNat 0) 0) else (none)) else (none)) = some r:=h;clear h
 by_cases c2 : 0 ≤ (l0.length : Int)
 ·rw [if_pos c2] at H;have c2b0:=eq_true c2;have c2b1 : decide (0 ≤ (l0.length : Int)) = true:=decide_eq_true c2;clear c2
  by_cases c3 : ((l0.length : Int) : Int).toNat ≤ 35184372088832
  ·rw [if_pos c3] at H;have c3b0:=eq_true c3;have c3b1 : decide (((l0.length : Int) : Int).toNat ≤ 35184372088832) = true:=decide_eq_true c3;clear c3;obtain ⟨y293,hy293⟩ : ∃ y_ : List Int,y_ = (List.replicate ((l0.length : Int) : Int).toNat 0):=⟨_,rfl⟩
   replace H : (laws_toIntS.l0 k l0 y293 0) = some r:=by first | (rw [hy293];with_reducible exact H) | (have H2_:=(Option.bind_some _ _).symm.trans H;rw [hy293];with_reducible exact H2_) | (have H2_:=(Option.bind_some _ _).symm.trans H;with_reducible exact H2_) | with_reducible exact H | (rw [hy293];exact H) | exact H
   have Ny293:=am hy293;clear hy293;have H':=am H;clear H
   go_enter Try.func106,Try.ntmps106
   go_wp2_with (first | ((with_reducible refine gate_dst (N:=7) rfl ?_);refine Kd.R_make (Kd.int .i64) _ 3 rfl (N:=7) rfl 49 _ _ rfl (l0.length : Int) rfl rfl Try.underlying49 (.int .i64 0) 8 info3 rfl (by decide) (by omega) 0 (ok:=fun _ => True) (okp:=fun _ => True) rfl (fun _ hk => hk) trivial (odt qq309) (Nat.le_trans (Nat.mul_le_mul_right _ (odt qq309 : (l0.length : Int).toNat ≤ 35184372088832)) (by omega)) (Below.refl _ _) (Nat.le_refl _) ?_;intro v294 w4 ho5 hb hg_ hnew_;clear hg_ hnew_;(first | rw [← Ny293.out] at ho5 | (simp only [Int.reduceToNat] at ho5;rw [← Ny293.out] at ho5));have HO295:=am qq429;replace HB:=am qq488;clear hb ho5))
   go_loopg [4] k (fun kq v4 w' => ∃ (x3_1 : List Int) (x4_1 : Int),v4 = .int .i64 x4_1 ∧ Aside0 (laws_toIntS.l0 kq l0 x3_1 x4_1 = some r) ∧ Aside0 (kq ≤ k) ∧ Aside0 (Kd.R (Kd.int .i64) 3 w' w.heap.size (fun _ => True) v294 x3_1) ∧ Aside0 (Below w.heap.size w w'))
   case atStart => exact ⟨(y293),(0),qq311,H',⟨Nat.le_refl _⟩,⟨by (with_reducible repeat (first | apply kA | apply kN | apply kD));exact HO295.out⟩,⟨qq208⟩⟩
   case round =>
    clear H'
    try clear c1
    try clear c2
    try clear c2b0
    try clear c2b1
    try clear p2
    try clear c3
    try clear c3b0
    try clear c3b1
    obtain ⟨x3_1,x4_1,rfl,HA,HK1,HO_3,HB⟩:=hrel
    cases gk with
    | zero => exact absurd HA.out (by simp [laws_toIntS.l0])
    | succ k1 =>
     have H:=HA.out;clear HA;simp only [laws_toIntS.l0] at H
     by_cases c6 : x4_1 < (l0.length : Int)
     ·rw [if_pos c6] at H;have c6b0 : decide (x4_1 < (l0.length : Int)) = true:=decide_eq_true c6;clear c6
      by_cases c7 : 0 ≤ x4_1
      ·rw [if_pos c7] at H;have c7b0 : decide (0 ≤ x4_1) = true:=decide_eq_true c7;clear c7
       by_cases c8 : x4_1 < (x3_1.length : Int)
       ·rw [if_pos c8] at H;have c8b0 : decide (x4_1 < (x3_1.length : Int)) = true:=decide_eq_true c8;clear c8;obtain ⟨y297,hy297⟩ : ∃ y_ : List Int,y_ = (x3_1.set (x4_1 : Int).toNat (rd l0 x4_1)):=⟨_,rfl⟩
        replace H : (laws_toIntS.l0 k1 l0 y297 (wrap64 (x4_1 + 1))) = some r:=by first | (rw [hy297];with_reducible exact H) | (have H2_:=(Option.bind_some _ _).symm.trans H;rw [hy297];with_reducible exact H2_) | (have H2_:=(Option.bind_some _ _).symm.trans H;with_reducible exact H2_) | with_reducible exact H | (rw [hy297];exact H) | exact H
        have Ny297:=am hy297;clear hy297;have H':=am H;clear H;have p296 : 0 ≤ (x4_1 : Int):=odt qq309;have q296 : x4_1 < (l0.length : Int):=odt qq309;obtain ⟨ad296,e296,hx296_0⟩:=Kd.at_int HR0.out x4_1 p296 q296
        cases e296
        replace hx296_0:=(ct HB.out hx296_0 :)
        replace p296:=eq_true p296;replace q296:=eq_true q296;have p9 : 0 ≤ (x4_1 : Int):=odt qq309;have q9 : (x4_1 : Int) < ((x3_1.length : Int) : Int):=odt qq309;obtain ⟨go9,co9,eo9,gb9,gl9,cl9,HG9⟩:=Kd.R_form HO_3.out (by omega);(first | cases eo9 | (injection eo9 with ea_ en_ ec_;(first | subst ea_ | (injection ea_ with ea_;subst ea_));subst ec_;clear en_));have GB9:=am gb9;have GG9:=am HG9;clear gb9 gl9 HG9;obtain ⟨hx9_0,hf9_0⟩:=Kd.R_celln 0 HO_3.out (x4_1 : Int) p9 q9;replace p9:=eq_true p9;replace q9:=eq_true q9;have HP10:=Kd.R_putg HO_3.out (x4_1 : Int) (rd l0 x4_1);go_wp2_with (first | ((with_reducible refine gate_store (t:=3) (p:=20) rfl ?_);refine store_event (t:=3) (p:=20) (v:=?vo_w11) (w1:=(wr.setCell ⟨go9,(x4_1 : Int).toNat,none⟩ (.int .i64 (rd l0 x4_1)))) ?hg ?ho ?hn ?hr ?_;(case ho => rfl);(case hg => rfl);(case hn => rfl);(case hr => exact qq312);intro w11 hw;have hg : wr.grownBy w11 (some go9):=(by rw [hw];exact HP10.2);have hp_ : Kd.R (Kd.int .i64) 3 w11 w.heap.size (fun _ => True) (.slice (some ⟨go9,0,none⟩) x3_1.length co9) y297:=(by rw [hw,Ny297.out];exact HP10.1);clear HP10;replace HO_3:=am (hp_);replace HB:=am ((by rw [hw];exact below_set (HB.out) GB9.out : Below w.heap.size w w11));clear hg hw hp_))
        go_roundg k1
        case measure => have:=HK1.out;omega
        case rel => exact ⟨(y297),(wrap64 (x4_1 + 1)),qq311,H',⟨qq331⟩,⟨qq304⟩,⟨qq208⟩⟩
       ·rw [if_neg c8] at H;exact absurd H (by simp)
      ·rw [if_neg c7] at H;exact absurd H (by simp)
     ·rw [if_neg c6] at H;have c6b0 : decide (x4_1 < (l0.length : Int)) = false:=decide_eq_false c6;clear c6;obtain rfl:=Option.some.inj H;go_wp2
      go_ret
      exact ⟨_,qq263,qq304,qq208⟩
  ·rw [if_neg c3] at H;exact absurd H (by simp)
 ·rw [if_neg c2] at H;exact absurd H (by simp)

/-! ### laws_toLand: function 56 -/
def laws_toLand.f (k : Nat) (a0_0 : Int) (a0_1 : Int) (l0_2 : List Int) : Option (Int × Int × List Int) := (laws_toIntS.f k l0_2).bind fun t301 => (some (a0_0, a0_1, t301))
set_option maxHeartbeats 8000000 in
set_option maxRecDepth 100000 in
theorem laws_toLand.calls (k : Nat) (a0_0 : Int) (a0_1 : Int) (A0_2 : Option Addr) (c0_2 : Nat) (l0_2 : List Int) (r1 : Int) (r2 : Int) (r3 : List Int) (w : World) (hr0_2 : Kd.C (Kd.int .i64) w A0_2 l0_2.length l0_2) (hc0_2 : l0_2.length ≤ c0_2) (h : laws_toLand.f k a0_0 a0_1 l0_2 = some (r1, r2, r3)) :
  Calls Try.prog 56 #[.agg #[.int .i64 a0_0,.int .i64 a0_1,.slice A0_2 l0_2.length c0_2]] w fun e w' => ∃ v2_ : Value,e = .returned (.agg #[.int .i64 r1,.int .i64 r2,v2_]) ∧ Kd.R (Kd.int .i64) 3 w' w.heap.size (fun _ => True) v2_ r3 ∧ Below w.heap.size w w':=by
 have hu81:=Try.underlying81;have hu51:=Try.underlying51;have HR0_2:=am hr0_2;have HC0_2:=am hc0_2;clear hr0_2 hc0_2;have HB:=am qq465;have H : ((laws_toIntS.f k l0_2).bind fun t301 => (some (a0_0,a0_1,t301))) = some (r1,r2,r3):=h;clear h;replace H:=bS.mp H;obtain ⟨t301,A20,H⟩:=H;(try dsimp only at H);have A2:=am A20;clear A20;simp only [Option.some.injEq,Prod.mk.injEq] at H;obtain ⟨rfl,rfl,rfl⟩:=H
 go_enter Try.func56,Try.ntmps56
 go_wp2_with (first | ((with_reducible refine gate_dst (N:=1) rfl ?_);refine box_event ?hg (N:=1) ?hd (cs:=#[.int .i64 a0_0,.int .i64 a0_1,.slice A0_2 l0_2.length c0_2]) (t:=81) ?hr ?_;(case hd => rfl);(case hg => rfl);(case hr => exact qq312);intro gb298 hg w3 hbox hb;have BK298:=am (hbox);have GW298:=am ((qq144 : w.heap.size ≤ gb298));have GE298:=am ((qq144 : w.heap.size ≤ gb298));replace HB:=am qq488;clear hb hbox hg) | ((with_reducible refine gate_dst (N:=2) rfl ?_);refine box_event ?hg (N:=2) ?hd (cs:=#[.int .i64 0,.int .i64 0,.slice none 0 0]) (t:=51) ?hr ?_;(case hd => rfl);(case hg => rfl);(case hr => exact qq312);intro gb299 hg w4 hbox hb;have BK299:=am (hbox);have GW299:=am ((qq85 : w.heap.size ≤ gb299));have GE299:=am ((qq85 : w.heap.size ≤ gb299));replace HB:=am (below_step qq169 hb);have NB298_299:=am ((qq34 : gb298 ≠ gb299));have NB299_298:=am ((qq40 : gb299 ≠ gb298));replace BK298:=am qq376;clear hb hbox hg) | ((with_reducible refine gate_dst (N:=3) rfl ?_);refine box_event ?hg (N:=3) ?hd (cs:=#[.int .i64 0,.int .i64 0,.slice none 0 0]) (t:=51) ?hr ?_;(case hd => rfl);(case hg => rfl);(case hr => exact qq312);intro gb300 hg w5 hbox hb;have BK300:=am (hbox);have GW300:=am ((qq64 : w.heap.size ≤ gb300));have GE300:=am ((qq64 : w.heap.size ≤ gb300));replace HB:=am (below_step qq99 hb);have NB298_300:=am ((qq34 : gb298 ≠ gb300));have NB300_298:=am ((qq40 : gb300 ≠ gb298));replace BK298:=am qq376;have NB299_300:=am ((by rw [hg];exact Nat.ne_of_lt (blk_lt (g:=gb299) (o:=.cells #[.int .i64 0,.int .i64 0,.slice none 0 0] 51 (0,0)) qq244) : gb299 ≠ gb300));have NB300_299:=am ((by rw [hg];exact Nat.ne_of_gt (blk_lt (g:=gb299) (o:=.cells #[.int .i64 0,.int .i64 0,.slice none 0 0] 51 (0,0)) qq244) : gb300 ≠ gb299));replace BK299:=am (blk_below (g:=gb299) (o:=.cells #[.int .i64 0,.int .i64 0,.slice none 0 0] 51 (0,0)) qq244 hb);clear hb hbox hg;have hnb6:=NB298_299.out;have hnc6:=NB299_298.out;have hnb7:=NB298_300.out;have hnc7:=NB300_298.out;obtain ⟨hcz8_0,hcz8_1,hcz8_2,hfz8_0,hfz8_1,hfz8_2⟩:=bcl3 BK298.out;have hnb9:=NB300_299.out;have hnc9:=NB299_300.out;obtain ⟨hcz10_0,hcz10_1,hcz10_2,hfz10_0,hfz10_1,hfz10_2⟩:=bcl3 BK300.out) | ((with_reducible refine gate_callee (f:=106) rfl ?_);refine goesL_ (some 12) rfl rfl Try.func106 (by kernel_rfl) rfl #[.slice A0_2 l0_2.length c0_2] rfl qq187 ?_;(with_reducible refine (laws_toIntS.calls k _ _ l0_2 t301 _ ?side1 ?side2 A2.out).mono ?_);(case side1 => exact Kd.C_below HR0_2.out qq69);(case side2 => exact qq334);rintro e w11 ⟨v302,rfl,ho0,hb⟩;refine ⟨_,rfl,?_⟩;have HO303:=am (Kd.R_lower ho0 (below_size qq69));replace BK298:=am (blk_below (g:=gb298) (o:=.cells #[.int .i64 a0_0,.int .i64 a0_1,.slice A0_2 l0_2.length c0_2] 81 (0,0)) (by (with_reducible repeat (first | refine dN ?_ _ | refine dD ?_ | refine dA ?_ _));refine blk_far ?_ NB298_300.out _;(with_reducible repeat (first | refine dN ?_ _ | refine dD ?_ | refine dA ?_ _));refine blk_far ?_ NB298_300.out _;(with_reducible repeat (first | refine dN ?_ _ | refine dD ?_ | refine dA ?_ _));exact BK298.out) hb);replace BK299:=am (blk_below (g:=gb299) (o:=.cells #[.int .i64 0,.int .i64 0,.slice none 0 0] 51 (0,0)) (by (with_reducible repeat (first | refine dN ?_ _ | refine dD ?_ | refine dA ?_ _));refine blk_far ?_ NB299_300.out _;(with_reducible repeat (first | refine dN ?_ _ | refine dD ?_ | refine dA ?_ _));refine blk_far ?_ NB299_300.out _;(with_reducible repeat (first | refine dN ?_ _ | refine dD ?_ | refine dA ?_ _));exact BK299.out) hb);replace BK300:=am (blk_below (g:=gb300) (o:=.cells #[.int .i64 a0_0,.int .i64 a0_1,.slice none 0 0] 51 (0,0)) (by (with_reducible repeat (first | refine dN ?_ _ | refine dD ?_ | refine dA ?_ _));refine blk_put (cs:=#[.int .i64 a0_0,.int .i64 0,.slice none 0 0]) ?_ 1 _ rfl;(with_reducible repeat (first | refine dN ?_ _ | refine dD ?_ | refine dA ?_ _));refine blk_put (cs:=#[.int .i64 0,.int .i64 0,.slice none 0 0]) ?_ 0 _ rfl;(with_reducible repeat (first | refine dN ?_ _ | refine dD ?_ | refine dA ?_ _));exact BK300.out) hb);replace HB:=am (below_step qq69 hb);(try clear hb);(try clear hb2);(try clear hk);(try clear hi);(try clear ho0);obtain ⟨Ao12,co12,eo12⟩:=Kd.R_slice HO303.out;subst eo12;obtain ⟨hcz13_0,hcz13_1,hcz13_2,hfz13_0,hfz13_1,hfz13_2⟩:=bcl3 BK300.out;obtain ⟨hcz14_0,hcz14_1,hcz14_2,hfz14_0,hfz14_1,hfz14_2⟩:=bcl3 BK299.out))
 refine bodyPost_ret (results_cell_row rfl _ _ gb299 51 #[.int .i64 a0_0,.int .i64 a0_1,.slice Ao12 t301.length co12] (0,0) _ rfl (by (with_reducible repeat (first | refine dN ?_ _ | refine dD ?_ | refine dA ?_ _));refine blk_put (cs:=#[.int .i64 a0_0,.int .i64 a0_1,.slice none 0 0]) ?_ 2 _ rfl;(with_reducible repeat (first | refine dN ?_ _ | refine dD ?_ | refine dA ?_ _));refine blk_put (cs:=#[.int .i64 a0_0,.int .i64 0,.slice none 0 0]) ?_ 1 _ rfl;(with_reducible repeat (first | refine dN ?_ _ | refine dD ?_ | refine dA ?_ _));refine blk_put (cs:=#[.int .i64 0,.int .i64 0,.slice none 0 0]) ?_ 0 _ rfl;(with_reducible repeat (first | refine dN ?_ _ | refine dD ?_ | refine dA ?_ _));refine blk_far ?_ NB299_300.out _;(with_reducible repeat (first | refine dN ?_ _ | refine dD ?_ | refine dA ?_ _));exact BK299.out) Try.underlying51 rfl (by kernel_rfl)) rfl ?_;exact ⟨_,qq263,by (with_reducible repeat (first | apply kA | apply kN | apply kD));exact Kd.R_mono (Kd.R_far (p:=⟨gb299,2,none⟩) (Kd.R_far (p:=⟨gb299,1,none⟩) (Kd.R_far (p:=⟨gb299,0,none⟩) (Kd.R_far (p:=⟨gb300,2,none⟩) (Kd.R_types (Kd.R_types HO303.out BK300.out (by decide)) BK299.out (by decide)) (fun _ hk => hk.1.2) (.slice Ao12 t301.length co12)) (fun _ hk => hk.2) (.int .i64 a0_0)) (fun _ hk => hk.2) (.int .i64 a0_1)) (fun _ hk => hk.2) (.slice Ao12 t301.length co12)) (fun _ hk => trivial),qq69⟩

/-! ### laws_toLeg: function 107 -/
def laws_toLeg.f (a0_0 : Int) (a0_1 : Int) : Option (Int × Int) := some (a0_0, a0_1)
set_option maxHeartbeats 8000000 in
set_option maxRecDepth 100000 in
theorem laws_toLeg.calls (a0_0 : Int) (a0_1 : Int) (r1 : Int) (r2 : Int) (w : World) (h : laws_toLeg.f a0_0 a0_1 = some (r1, r2)) :
  Calls Try.prog 107 #[.agg #[.int .i64 a0_0,.int .i64 a0_1]] w fun e w' => e = .returned (.agg #[.int .i64 r1,.int .i64 r2]) ∧ Below w.heap.size w w':=by
 have hu130:=Try.underlying130;have hu76:=Try.underlying76;have HB:=am qq465;have H : (some (a0_0,a0_1)) = some (r1,r2):=h;clear h;simp only [Option.some.injEq,Prod.mk.injEq] at H;obtain ⟨rfl,rfl⟩:=H
 go_enter Try.func107,Try.ntmps107
 go_wp2_with (first | ((with_reducible refine gate_dst (N:=1) rfl ?_);refine box_event ?hg (N:=1) ?hd (cs:=#[.int .i64 a0_0,.int .i64 a0_1]) (t:=130) ?hr ?_;(case hd => rfl);(case hg => rfl);(case hr => exact qq312);intro gb304 hg w2 hbox hb;have BK304:=am (hbox);have GW304:=am ((qq144 : w.heap.size ≤ gb304));have GE304:=am ((qq144 : w.heap.size ≤ gb304));replace HB:=am qq488;clear hb hbox hg) | ((with_reducible refine gate_dst (N:=2) rfl ?_);refine box_event ?hg (N:=2) ?hd (cs:=#[.int .i64 0,.int .i64 0]) (t:=76) ?hr ?_;(case hd => rfl);(case hg => rfl);(case hr => exact qq312);intro gb305 hg w3 hbox hb;have BK305:=am (hbox);have GW305:=am ((qq84 : w.heap.size ≤ gb305));have GE305:=am ((qq84 : w.heap.size ≤ gb305));replace HB:=am (below_step qq168 hb);have NB304_305:=am ((qq50 : gb304 ≠ gb305));have NB305_304:=am ((qq51 : gb305 ≠ gb304));replace BK304:=am qq404;clear hb hbox hg) | ((with_reducible refine gate_dst (N:=3) rfl ?_);refine box_event ?hg (N:=3) ?hd (cs:=#[.int .i64 0,.int .i64 0]) (t:=76) ?hr ?_;(case hd => rfl);(case hg => rfl);(case hr => exact qq312);intro gb306 hg w4 hbox hb;have BK306:=am (hbox);have GW306:=am ((qq63 : w.heap.size ≤ gb306));have GE306:=am ((qq63 : w.heap.size ≤ gb306));replace HB:=am (below_step qq98 hb);have NB304_306:=am ((qq50 : gb304 ≠ gb306));have NB306_304:=am ((qq51 : gb306 ≠ gb304));replace BK304:=am qq404;have NB305_306:=am ((by rw [hg];exact Nat.ne_of_lt (blk_lt (g:=gb305) (o:=.cells #[.int .i64 0,.int .i64 0] 76 (0,0)) qq242) : gb305 ≠ gb306));have NB306_305:=am ((by rw [hg];exact Nat.ne_of_gt (blk_lt (g:=gb305) (o:=.cells #[.int .i64 0,.int .i64 0] 76 (0,0)) qq242) : gb306 ≠ gb305));replace BK305:=am (blk_below (g:=gb305) (o:=.cells #[.int .i64 0,.int .i64 0] 76 (0,0)) qq242 hb);clear hb hbox hg;have hnb5:=NB304_305.out;have hnc5:=NB305_304.out;have hnb6:=NB304_306.out;have hnc6:=NB306_304.out;obtain ⟨hcz7_0,hcz7_1,hfz7_0,hfz7_1⟩:=bcl2 BK304.out;have hnb8:=NB306_305.out;have hnc8:=NB305_306.out;obtain ⟨hcz9_0,hcz9_1,hfz9_0,hfz9_1⟩:=bcl2 BK306.out;obtain ⟨hcz10_0,hcz10_1,hfz10_0,hfz10_1⟩:=bcl2 BK305.out))
 refine bodyPost_ret (results_cell_row rfl _ _ gb305 76 #[.int .i64 a0_0,.int .i64 a0_1] (0,0) _ rfl (by (with_reducible repeat (first | refine dN ?_ _ | refine dD ?_ | refine dA ?_ _));refine blk_put (cs:=#[.int .i64 a0_0,.int .i64 0]) ?_ 1 _ rfl;(with_reducible repeat (first | refine dN ?_ _ | refine dD ?_ | refine dA ?_ _));refine blk_put (cs:=#[.int .i64 0,.int .i64 0]) ?_ 0 _ rfl;(with_reducible repeat (first | refine dN ?_ _ | refine dD ?_ | refine dA ?_ _));refine blk_far ?_ NB305_306.out _;(with_reducible repeat (first | refine dN ?_ _ | refine dD ?_ | refine dA ?_ _));refine blk_far ?_ NB305_306.out _;(with_reducible repeat (first | refine dN ?_ _ | refine dD ?_ | refine dA ?_ _));exact BK305.out) Try.underlying76 rfl (by kernel_rfl)) rfl ?_;exact ⟨qq263,by repeat (first | (with_reducible first | exact HB.out | apply bA | apply bN | apply bD | refine below_set ?_ GE304.out | refine below_set ?_ GE305.out | refine below_set ?_ GE306.out) | exact HB.out)⟩

end Go.Proofs.Ytcbkknpmeknppaa.PFnExactPlanFood
