/- Contracts of functions that the law FnExactPlanDays reaches, for its row: lines that the kit's printer wrote for this claim, set shorter by a program of this session (own.py), and what fell in Lean proved anew. Lean checks them. -/
import Derived.Test.YtcbkknpmeknppaaSFnExactPlanDaysx0
import Derived.Test.YtcbkknpmeknppaaSFnExactPlanDaysx8
import Derived.Test.YtcbkknpmeknppaaSFnExactPlanDaysx9
namespace Go.Proofs.Ytcbkknpmeknppaa.PFnExactPlanDays
open Go.RowKit Go.Proofs.YtcbkknpmeknppaaW.PrintWords Go.Proofs.YtcbkknpmeknppaaW.PrintLast Go.Proofs.YtcbkknpmeknppaaW.PrintMore
attribute [local go_sem] max2_int min2_int max_two min_two max_three min_three max_four min_four   -- for this text's walks alone
set_option linter.unusedVariables false
set_option linter.unusedSimpArgs false

/-! ### spec_WayTo: function 109 -/
mutual
def spec_WayTo.l0 : Nat → Int → Int → List Int → List Int → Int → Int → List Int → Option (List Int)
 | 0,_,_,_,_,_,_,_ => none
 | k + 1,x1,x2,x7,x8,x337000,x337001,x337002 => if x1 = x2 then (some x7) else ((spec_l4Near.f k x337000 x337001 x337002 x1).bind fun t347 => (spec_WayTo.l1 k x1 x2 x7 x8 t347 (wrap64 ((t347.length : Int) - 1)) x337000 x337001 x337002))
def spec_WayTo.l1 : Nat → Int → Int → List Int → List Int → List Int → Int → Int → Int → List Int → Option (List Int)
 | 0,_,_,_,_,_,_,_,_,_ => none
 | k + 1,x1,x2,x7,x8,x9,x10,x337000,x337001,x337002 => if x10 ≥ 0 then (if 0 ≤ x10 then (if x10 < (x9.length : Int) then (if 0 ≤ (rd x9 x10) then (if (rd x9 x10) < (x8.length : Int) then (if 0 ≤ (wrap64 ((x7.length : Int) - 1)) then (if (wrap64 ((x7.length : Int) - 1)) < (x7.length : Int) then (if 0 ≤ (rd x7 (wrap64 ((x7.length : Int) - 1))) then (if (rd x7 (wrap64 ((x7.length : Int) - 1))) < (x8.length : Int) then (if (rd x8 (rd x9 x10)) = (wrap64 ((rd x8 (rd x7 (wrap64 ((x7.length : Int) - 1)))) - 1)) then (spec_WayTo.l1 k (rd x9 x10) x2 x7 x8 x9 (wrap64 (x10 - 1)) x337000 x337001 x337002) else (spec_WayTo.l1 k x1 x2 x7 x8 x9 (wrap64 (x10 - 1)) x337000 x337001 x337002)) else (none)) else (none)) else (none)) else (none)) else (none)) else (none)) else (none)) else (none)) else (if x7.length < 17592186044416 then (spec_WayTo.l0 k x1 x2 (x7 ++ [x1]) x8 x337000 x337001 x337002) else (none))
end
def spec_WayTo.f (k : Nat) (a0_0 : Int) (a0_1 : Int) (l0_2 : List Int) (a1 : Int) (a2 : Int) : Option (List Int) := (some (([] : List Int) : List Int)).bind fun y337 => ((spec_Days.f k a0_0 a0_1 l0_2 a1 a2).bind fun t340 => (if t340 < 0 then (some y337) else ((spec_l5From.f k a0_0 a0_1 l0_2 a2).bind fun t341 => (if y337.length < 17592186044416 then (spec_WayTo.l0 k a1 a2 (y337 ++ [a1]) t341 a0_0 a0_1 l0_2) else (none)))))
theorem spec_WayTo.mono_l : ∀ k, (∀ y0 y1 y2 y3 y4 y5 y6, LeO (spec_WayTo.l0 k y0 y1 y2 y3 y4 y5 y6) (spec_WayTo.l0 (k + 1) y0 y1 y2 y3 y4 y5 y6)) ∧ (∀ y0 y1 y2 y3 y4 y5 y6 y7 y8, LeO (spec_WayTo.l1 k y0 y1 y2 y3 y4 y5 y6 y7 y8) (spec_WayTo.l1 (k + 1) y0 y1 y2 y3 y4 y5 y6 y7 y8))
 | 0 => ⟨fun _ _ _ _ _ _ _ r h => by simp [spec_WayTo.l0] at h,fun _ _ _ _ _ _ _ _ _ r h => by simp [spec_WayTo.l1] at h⟩
 | k + 1 => by
  obtain ⟨ih0,ih1⟩:=spec_WayTo.mono_l k
  refine ⟨?_,?_⟩
  ·intro y0 y1 y2 y3 y4 y5 y6
   unfold spec_WayTo.l0
   repeat' first
   | (with_reducible exact ih0 _ _ _ _ _ _ _)
   | (with_reducible exact ih1 _ _ _ _ _ _ _ _ _)
   | (with_reducible exact spec_Days.mono _ _ _ _ _ _)
   | (with_reducible exact spec_l4Near.mono _ _ _ _ _)
   | (with_reducible exact spec_l5From.mono _ _ _ _ _)
   | (with_reducible exact LeO.refl _)
   | (with_reducible exact LeO.none _)
   | (with_reducible refine LeO.ite ?_ ?_)
   | (with_reducible refine LeO.bind ?_ (fun _ => ?_))
   | exact ih0 _ _ _ _ _ _ _
   | exact ih1 _ _ _ _ _ _ _ _ _
   | exact spec_Days.mono _ _ _ _ _ _
   | exact spec_l4Near.mono _ _ _ _ _
   | exact spec_l5From.mono _ _ _ _ _
   | exact LeO.none _
   | refine LeO.ite ?_ ?_
   | refine LeO.bind ?_ (fun _ => ?_)
  ·intro y0 y1 y2 y3 y4 y5 y6 y7 y8
   unfold spec_WayTo.l1
   repeat' first
   | (with_reducible exact ih0 _ _ _ _ _ _ _)
   | (with_reducible exact ih1 _ _ _ _ _ _ _ _ _)
   | (with_reducible exact spec_Days.mono _ _ _ _ _ _)
   | (with_reducible exact spec_l4Near.mono _ _ _ _ _)
   | (with_reducible exact spec_l5From.mono _ _ _ _ _)
   | (with_reducible exact LeO.refl _)
   | (with_reducible exact LeO.none _)
   | (with_reducible refine LeO.ite ?_ ?_)
   | (with_reducible refine LeO.bind ?_ (fun _ => ?_))
   | exact ih0 _ _ _ _ _ _ _
   | exact ih1 _ _ _ _ _ _ _ _ _
   | exact spec_Days.mono _ _ _ _ _ _
   | exact spec_l4Near.mono _ _ _ _ _
   | exact spec_l5From.mono _ _ _ _ _
   | exact LeO.none _
   | refine LeO.ite ?_ ?_
   | refine LeO.bind ?_ (fun _ => ?_)
theorem spec_WayTo.mono : ∀ a0 a1 a2 a3 a4 k, LeO (spec_WayTo.f k a0 a1 a2 a3 a4) (spec_WayTo.f (k + 1) a0 a1 a2 a3 a4) := by
 intro a0 a1 a2 a3 a4 k
 obtain ⟨ih0,ih1⟩:=spec_WayTo.mono_l k
 unfold spec_WayTo.f
 repeat' first
   | (with_reducible exact ih0 _ _ _ _ _ _ _)
   | (with_reducible exact ih1 _ _ _ _ _ _ _ _ _)
   | (with_reducible exact spec_Days.mono _ _ _ _ _ _)
   | (with_reducible exact spec_l4Near.mono _ _ _ _ _)
   | (with_reducible exact spec_l5From.mono _ _ _ _ _)
   | (with_reducible exact LeO.refl _)
   | (with_reducible exact LeO.none _)
   | (with_reducible refine LeO.ite ?_ ?_)
   | (with_reducible refine LeO.bind ?_ (fun _ => ?_))
   | exact ih0 _ _ _ _ _ _ _
   | exact ih1 _ _ _ _ _ _ _ _ _
   | exact spec_Days.mono _ _ _ _ _ _
   | exact spec_l4Near.mono _ _ _ _ _
   | exact spec_l5From.mono _ _ _ _ _
   | exact LeO.none _
   | refine LeO.ite ?_ ?_
   | refine LeO.bind ?_ (fun _ => ?_)
set_option maxHeartbeats 8000000 in
set_option maxRecDepth 100000 in
theorem spec_WayTo.calls (k : Nat) (a0_0 : Int) (a0_1 : Int) (A0_2 : Option Addr) (c0_2 : Nat) (l0_2 : List Int) (a1 : Int) (a2 : Int) (r : List Int) (w : World) (hr0_2 : Kd.C (Kd.int .i64) w A0_2 l0_2.length l0_2) (hc0_2 : l0_2.length ≤ c0_2) (h : spec_WayTo.f k a0_0 a0_1 l0_2 a1 a2 = some r) :
  Calls Try.prog 109 #[.agg #[.int .i64 a0_0,.int .i64 a0_1,.slice A0_2 l0_2.length c0_2],.int .i64 a1,.int .i64 a2] w fun e w' => ∃ v0_ : Value,e = .returned (v0_) ∧ Kd.R (Kd.int .i64) 3 w' w.heap.size (fun _ => True) v0_ r ∧ Below w.heap.size w w':=by
 have hu51:=Try.underlying51;have HR0_2:=am hr0_2;have HC0_2:=am hc0_2;clear hr0_2 hc0_2;have HB:=am (Below.refl w.heap.size w);have H : ((some (([] : List Int) : List Int)).bind fun y337 => ((spec_Days.f k a0_0 a0_1 l0_2 a1 a2).bind fun t340 => (if t340 < 0 then (some y337) else ((spec_l5From.f k a0_0 a0_1 l0_2 a2).bind fun t341 => (if y337.length < 17592186044416 then (spec_WayTo.l0 k a1 a2 (y337 ++ [a1]) t341 a0_0 a0_1 l0_2) else (none)))))) = some r:=h;clear h;obtain ⟨y337,hy337⟩ : ∃ y_ : List Int,y_ = (([] : List Int)):=⟨_,rfl⟩
 replace H : ((spec_Days.f k a0_0 a0_1 l0_2 a1 a2).bind fun t340 => (if t340 < 0 then (some y337) else ((spec_l5From.f k a0_0 a0_1 l0_2 a2).bind fun t341 => (if y337.length < 17592186044416 then (spec_WayTo.l0 k a1 a2 (y337 ++ [a1]) t341 a0_0 a0_1 l0_2) else (none))))) = some r:=by first | (rw [hy337];with_reducible exact H) | (have H2_:=(Option.bind_some _ _).symm.trans H;rw [hy337];with_reducible exact H2_) | (have H2_:=(Option.bind_some _ _).symm.trans H;with_reducible exact H2_) | with_reducible exact H | (rw [hy337];exact H) | exact H
 have Ny337:=am hy337;clear hy337;replace H:=bS.mp H;obtain ⟨t340,A40,H⟩:=H;replace H : (if t340 < 0 then (some y337) else ((spec_l5From.f k a0_0 a0_1 l0_2 a2).bind fun t341 => (if y337.length < 17592186044416 then (spec_WayTo.l0 k a1 a2 (y337 ++ [a1]) t341 a0_0 a0_1 l0_2) else (none)))) = some r:=H;have A4:=am A40;clear A40
 by_cases c5 : t340 < 0
 ·rw [if_pos c5] at H;have c5b0 : decide (t340 < 0) = true:=decide_eq_true c5;clear c5;obtain rfl:=Option.some.inj H
  go_enter Try.func109,Try.ntmps109
  go_wp2_with (first | ((with_reducible refine gate_dst (N:=3) rfl ?_);refine box_event ?hg (N:=3) ?hd (cs:=#[.int .i64 a0_0,.int .i64 a0_1,.slice A0_2 l0_2.length c0_2]) (t:=51) ?hr ?_;(case hd => rfl);(case hg => rfl);(case hr => exact qq186);intro gb336 hg w6 hbox hb;have BK336:=am (hbox);have GW336:=am ((qq73 : w.heap.size ≤ gb336));have GE336:=am ((qq73 : w.heap.size ≤ gb336));replace HB:=am (below_step qq117 hb);clear hb hbox hg) | ((with_reducible refine gate_dst (N:=11) rfl ?_);refine Kd.R_lit (Kd.int .i64) _ 3 ?hg (N:=11) ?hd (xs:=([] : List Int)) (inner:=[]) (ok:=fun _ => True) (okp:=fun _ => True) ?hr ?hp (fun _ hk => hk) trivial (Below.refl _ _) (Nat.le_refl _) (by simp) ?_;(case hd => rfl);(case hg => rfl);(case hr => exact qq186);(case hp => exact qq197);intro v338 w7 ho8 hb hg_ hnew_;clear hg_ hnew_;(first | rw [← Ny337.out] at ho8 | (simp only [Int.reduceToNat] at ho8;rw [← Ny337.out] at ho8));have HO339:=am (Kd.R_lower ho8 (below_size qq77));replace BK336:=am (blk_below (g:=gb336) (o:=.cells #[.int .i64 a0_0,.int .i64 a0_1,.slice A0_2 l0_2.length c0_2] 51 (0,0)) qq122 hb);replace HB:=am (below_step qq77 hb);clear hb ho8;obtain ⟨hcz9_0,hcz9_1,hcz9_2,hfz9_0,hfz9_1,hfz9_2⟩:=bcl3 BK336.out) | (go_at_call 103;(with_reducible refine (spec_Days.calls k a0_0 a0_1 _ _ l0_2 a1 a2 t340 _ ?side1 ?side2 A4.out).mono ?_);(case side1 => exact qq56);(case side2 => exact qq199);rintro e w10 ⟨rfl,hb⟩;replace HO339:=am (Kd.R_below qq166 hb);replace BK336:=am (blk_below (g:=gb336) (o:=.cells #[.int .i64 a0_0,.int .i64 a0_1,.slice A0_2 l0_2.length c0_2] 51 (0,0)) qq122 hb);replace HB:=am (below_step qq77 hb);(try clear hb);(try clear hb2);(try clear hk);(try clear hi)))
  repeat (go_quiet (first | ((with_reducible refine gate_dst (N:=3) rfl ?_);refine box_event ?hg (N:=3) ?hd (cs:=#[.int .i64 a0_0,.int .i64 a0_1,.slice A0_2 l0_2.length c0_2]) (t:=51) ?hr ?_;(case hd => rfl);(case hg => rfl);(case hr => exact qq186);intro gb336 hg w6 hbox hb;have BK336:=am (hbox);have GW336:=am ((qq73 : w.heap.size ≤ gb336));have GE336:=am ((qq73 : w.heap.size ≤ gb336));replace HB:=am (below_step qq117 hb);clear hb hbox hg) | ((with_reducible refine gate_dst (N:=11) rfl ?_);refine Kd.R_lit (Kd.int .i64) _ 3 ?hg (N:=11) ?hd (xs:=([] : List Int)) (inner:=[]) (ok:=fun _ => True) (okp:=fun _ => True) ?hr ?hp (fun _ hk => hk) trivial (Below.refl _ _) (Nat.le_refl _) (by simp) ?_;(case hd => rfl);(case hg => rfl);(case hr => exact qq186);(case hp => exact qq197);intro v338 w7 ho8 hb hg_ hnew_;clear hg_ hnew_;(first | rw [← Ny337.out] at ho8 | (simp only [Int.reduceToNat] at ho8;rw [← Ny337.out] at ho8));have HO339:=am (Kd.R_lower ho8 (below_size qq77));replace BK336:=am (blk_below (g:=gb336) (o:=.cells #[.int .i64 a0_0,.int .i64 a0_1,.slice A0_2 l0_2.length c0_2] 51 (0,0)) qq122 hb);replace HB:=am (below_step qq77 hb);clear hb ho8;obtain ⟨hcz9_0,hcz9_1,hcz9_2,hfz9_0,hfz9_1,hfz9_2⟩:=bcl3 BK336.out) | (go_at_call 103;(with_reducible refine (spec_Days.calls k a0_0 a0_1 _ _ l0_2 a1 a2 t340 _ ?side1 ?side2 A4.out).mono ?_);(case side1 => exact qq56);(case side2 => exact qq199);rintro e w10 ⟨rfl,hb⟩;replace HO339:=am (Kd.R_below qq166 hb);replace BK336:=am (blk_below (g:=gb336) (o:=.cells #[.int .i64 a0_0,.int .i64 a0_1,.slice A0_2 l0_2.length c0_2] 51 (0,0)) qq122 hb);replace HB:=am (below_step qq77 hb);(try clear hb);(try clear hb2);(try clear hk);(try clear hi)));try go_wp2_with (first | ((with_reducible refine gate_dst (N:=3) rfl ?_);refine box_event ?hg (N:=3) ?hd (cs:=#[.int .i64 a0_0,.int .i64 a0_1,.slice A0_2 l0_2.length c0_2]) (t:=51) ?hr ?_;(case hd => rfl);(case hg => rfl);(case hr => exact qq186);intro gb336 hg w6 hbox hb;have BK336:=am (hbox);have GW336:=am ((qq73 : w.heap.size ≤ gb336));have GE336:=am ((qq73 : w.heap.size ≤ gb336));replace HB:=am (below_step qq117 hb);clear hb hbox hg) | ((with_reducible refine gate_dst (N:=11) rfl ?_);refine Kd.R_lit (Kd.int .i64) _ 3 ?hg (N:=11) ?hd (xs:=([] : List Int)) (inner:=[]) (ok:=fun _ => True) (okp:=fun _ => True) ?hr ?hp (fun _ hk => hk) trivial (Below.refl _ _) (Nat.le_refl _) (by simp) ?_;(case hd => rfl);(case hg => rfl);(case hr => exact qq186);(case hp => exact qq197);intro v338 w7 ho8 hb hg_ hnew_;clear hg_ hnew_;(first | rw [← Ny337.out] at ho8 | (simp only [Int.reduceToNat] at ho8;rw [← Ny337.out] at ho8));have HO339:=am (Kd.R_lower ho8 (below_size qq77));replace BK336:=am (blk_below (g:=gb336) (o:=.cells #[.int .i64 a0_0,.int .i64 a0_1,.slice A0_2 l0_2.length c0_2] 51 (0,0)) qq122 hb);replace HB:=am (below_step qq77 hb);clear hb ho8;obtain ⟨hcz9_0,hcz9_1,hcz9_2,hfz9_0,hfz9_1,hfz9_2⟩:=bcl3 BK336.out) | (go_at_call 103;(with_reducible refine (spec_Days.calls k a0_0 a0_1 _ _ l0_2 a1 a2 t340 _ ?side1 ?side2 A4.out).mono ?_);(case side1 => exact qq56);(case side2 => exact qq199);rintro e w10 ⟨rfl,hb⟩;replace HO339:=am (Kd.R_below qq166 hb);replace BK336:=am (blk_below (g:=gb336) (o:=.cells #[.int .i64 a0_0,.int .i64 a0_1,.slice A0_2 l0_2.length c0_2] 51 (0,0)) qq122 hb);replace HB:=am (below_step qq77 hb);(try clear hb);(try clear hb2);(try clear hk);(try clear hi))))
  go_ret
  exact ⟨_,qq147,qq166,qq77⟩
 ·rw [if_neg c5] at H;have c5b0 : decide (t340 < 0) = false:=decide_eq_false c5;clear c5;replace H:=bS.mp H;obtain ⟨t341,A110,H⟩:=H;replace H : (if y337.length < 17592186044416 then (spec_WayTo.l0 k a1 a2 (y337 ++ [a1]) t341 a0_0 a0_1 l0_2) else (none)) = some r:=H;have A11:=am A110;clear A110
  by_cases c12 : y337.length < 17592186044416
  ·rw [if_pos c12] at H;have LMc12:=am c12;clear c12;obtain ⟨y344,hy344⟩ : ∃ y_ : List Int,y_ = (y337 ++ [a1]):=⟨_,rfl⟩
   replace H : (spec_WayTo.l0 k a1 a2 y344 t341 a0_0 a0_1 l0_2) = some r:=by first | (rw [hy344];with_reducible exact H) | (have H2_:=(Option.bind_some _ _).symm.trans H;rw [hy344];with_reducible exact H2_) | (have H2_:=(Option.bind_some _ _).symm.trans H;with_reducible exact H2_) | with_reducible exact H | (rw [hy344];exact H) | exact H
   have Ny344:=am hy344;clear hy344;have H':=am H;clear H
   go_enter Try.func109,Try.ntmps109
   go_wp2_with (first | ((with_reducible refine gate_dst (N:=3) rfl ?_);refine box_event ?hg (N:=3) ?hd (cs:=#[.int .i64 a0_0,.int .i64 a0_1,.slice A0_2 l0_2.length c0_2]) (t:=51) ?hr ?_;(case hd => rfl);(case hg => rfl);(case hr => exact qq186);intro gb336 hg w13 hbox hb;have BK336:=am (hbox);have GW336:=am ((qq73 : w.heap.size ≤ gb336));have GE336:=am ((qq73 : w.heap.size ≤ gb336));replace HB:=am (below_step qq117 hb);clear hb hbox hg) | ((with_reducible refine gate_dst (N:=11) rfl ?_);refine Kd.R_lit (Kd.int .i64) _ 3 ?hg (N:=11) ?hd (xs:=([] : List Int)) (inner:=[]) (ok:=fun _ => True) (okp:=fun _ => True) ?hr ?hp (fun _ hk => hk) trivial (Below.refl _ _) (Nat.le_refl _) (by simp) ?_;(case hd => rfl);(case hg => rfl);(case hr => exact qq186);(case hp => exact qq197);intro v338 w14 ho15 hb hg_ hnew_;clear hg_ hnew_;(first | rw [← Ny337.out] at ho15 | (simp only [Int.reduceToNat] at ho15;rw [← Ny337.out] at ho15));have HO339:=am (Kd.R_lower ho15 (below_size qq77));replace BK336:=am (blk_below (g:=gb336) (o:=.cells #[.int .i64 a0_0,.int .i64 a0_1,.slice A0_2 l0_2.length c0_2] 51 (0,0)) qq122 hb);replace HB:=am (below_step qq77 hb);clear hb ho15;obtain ⟨hcz16_0,hcz16_1,hcz16_2,hfz16_0,hfz16_1,hfz16_2⟩:=bcl3 BK336.out) | (go_at_call 103;(with_reducible refine (spec_Days.calls k a0_0 a0_1 _ _ l0_2 a1 a2 t340 _ ?side1 ?side2 A4.out).mono ?_);(case side1 => exact qq56);(case side2 => exact qq199);rintro e w17 ⟨rfl,hb⟩;replace HO339:=am (Kd.R_below qq166 hb);replace BK336:=am (blk_below (g:=gb336) (o:=.cells #[.int .i64 a0_0,.int .i64 a0_1,.slice A0_2 l0_2.length c0_2] 51 (0,0)) qq122 hb);replace HB:=am (below_step qq77 hb);(try clear hb);(try clear hb2);(try clear hk);(try clear hi);obtain ⟨hcz18_0,hcz18_1,hcz18_2,hfz18_0,hfz18_1,hfz18_2⟩:=bcl3 BK336.out) | (go_at_call 136;(with_reducible refine (spec_l5From.calls k a0_0 a0_1 _ _ l0_2 a2 t341 _ ?side1 ?side2 A11.out).mono ?_);(case side1 => exact qq56);(case side2 => exact qq199);rintro e w19 ⟨v342,rfl,ho0,hb⟩;have HO343:=am (Kd.R_lower (Kd.R_new' ho0 (Kd.R_lt qq166)) (below_size qq77));replace HO339:=am (Kd.R_elder' qq166 (Kd.R_base ho0) hb);replace BK336:=am (blk_below (g:=gb336) (o:=.cells #[.int .i64 a0_0,.int .i64 a0_1,.slice A0_2 l0_2.length c0_2] 51 (0,0)) qq122 hb);replace HB:=am (below_step qq77 hb);(try clear hb);(try clear hb2);(try clear hk);(try clear hi);(try clear ho0)) | ((with_reducible refine gate_builtin (b:=.append) (xs:=#[.tmp 21,.tmp 23]) rfl ?_);at_builtin;refine Kd.R_append (Kd.int .i64) (w0:=w) w.heap.size rfl (.tmp 21) (.tmp 23) 49 3 (.int .i64 0) 8 rfl Try.underlying49 info3 rfl (by decide) (by omega) v338 y337 a1 [.int .i64 a1] (fun k_ => some k_ ≠ (v342 : Value).ownBlock) (fun _ => False) rfl rfl ?aP (fun _ hk => hk.elim) ?aF ?aO ?aB ?aS ?aL ?_;(case aP => exact rfl);(case aB => exact qq66);(case aF => exact qq102);(case aO => exact qq104);(case aS => exact qq50);(case aL => have:=LMc12.out;omega);intro v345 w20 ho hb hg hat;rw [← Ny344.out] at ho;replace BK336:=am (blk_grown (g:=gb336) (o:=.cells #[.int .i64 a0_0,.int .i64 a0_1,.slice A0_2 l0_2.length c0_2] 51 (0,0)) qq122 hg (Kd.R_ne HO339.out BK336.out (by decide)));replace HO343:=am (Kd.R_after (ok:=(fun _ => True)) qq165 hg hat);replace HB:=am (hb);have HO346:=am (ho);clear HO339;clear ho hb hg hat))
   repeat (go_quiet (first | ((with_reducible refine gate_dst (N:=3) rfl ?_);refine box_event ?hg (N:=3) ?hd (cs:=#[.int .i64 a0_0,.int .i64 a0_1,.slice A0_2 l0_2.length c0_2]) (t:=51) ?hr ?_;(case hd => rfl);(case hg => rfl);(case hr => exact qq186);intro gb336 hg w13 hbox hb;have BK336:=am (hbox);have GW336:=am ((qq73 : w.heap.size ≤ gb336));have GE336:=am ((qq73 : w.heap.size ≤ gb336));replace HB:=am (below_step qq117 hb);clear hb hbox hg) | ((with_reducible refine gate_dst (N:=11) rfl ?_);refine Kd.R_lit (Kd.int .i64) _ 3 ?hg (N:=11) ?hd (xs:=([] : List Int)) (inner:=[]) (ok:=fun _ => True) (okp:=fun _ => True) ?hr ?hp (fun _ hk => hk) trivial (Below.refl _ _) (Nat.le_refl _) (by simp) ?_;(case hd => rfl);(case hg => rfl);(case hr => exact qq186);(case hp => exact qq197);intro v338 w14 ho15 hb hg_ hnew_;clear hg_ hnew_;(first | rw [← Ny337.out] at ho15 | (simp only [Int.reduceToNat] at ho15;rw [← Ny337.out] at ho15));have HO339:=am (Kd.R_lower ho15 (below_size qq77));replace BK336:=am (blk_below (g:=gb336) (o:=.cells #[.int .i64 a0_0,.int .i64 a0_1,.slice A0_2 l0_2.length c0_2] 51 (0,0)) qq122 hb);replace HB:=am (below_step qq77 hb);clear hb ho15;obtain ⟨hcz16_0,hcz16_1,hcz16_2,hfz16_0,hfz16_1,hfz16_2⟩:=bcl3 BK336.out) | (go_at_call 103;(with_reducible refine (spec_Days.calls k a0_0 a0_1 _ _ l0_2 a1 a2 t340 _ ?side1 ?side2 A4.out).mono ?_);(case side1 => exact qq56);(case side2 => exact qq199);rintro e w17 ⟨rfl,hb⟩;replace HO339:=am (Kd.R_below qq166 hb);replace BK336:=am (blk_below (g:=gb336) (o:=.cells #[.int .i64 a0_0,.int .i64 a0_1,.slice A0_2 l0_2.length c0_2] 51 (0,0)) qq122 hb);replace HB:=am (below_step qq77 hb);(try clear hb);(try clear hb2);(try clear hk);(try clear hi);obtain ⟨hcz18_0,hcz18_1,hcz18_2,hfz18_0,hfz18_1,hfz18_2⟩:=bcl3 BK336.out) | (go_at_call 136;(with_reducible refine (spec_l5From.calls k a0_0 a0_1 _ _ l0_2 a2 t341 _ ?side1 ?side2 A11.out).mono ?_);(case side1 => exact qq56);(case side2 => exact qq199);rintro e w19 ⟨v342,rfl,ho0,hb⟩;have HO343:=am (Kd.R_lower (Kd.R_new' ho0 (Kd.R_lt qq166)) (below_size qq77));replace HO339:=am (Kd.R_elder' qq166 (Kd.R_base ho0) hb);replace BK336:=am (blk_below (g:=gb336) (o:=.cells #[.int .i64 a0_0,.int .i64 a0_1,.slice A0_2 l0_2.length c0_2] 51 (0,0)) qq122 hb);replace HB:=am (below_step qq77 hb);(try clear hb);(try clear hb2);(try clear hk);(try clear hi);(try clear ho0)) | ((with_reducible refine gate_builtin (b:=.append) (xs:=#[.tmp 21,.tmp 23]) rfl ?_);at_builtin;refine Kd.R_append (Kd.int .i64) (w0:=w) w.heap.size rfl (.tmp 21) (.tmp 23) 49 3 (.int .i64 0) 8 rfl Try.underlying49 info3 rfl (by decide) (by omega) v338 y337 a1 [.int .i64 a1] (fun k_ => some k_ ≠ (v342 : Value).ownBlock) (fun _ => False) rfl rfl ?aP (fun _ hk => hk.elim) ?aF ?aO ?aB ?aS ?aL ?_;(case aP => exact rfl);(case aB => exact qq66);(case aF => exact qq102);(case aO => exact qq104);(case aS => exact qq50);(case aL => have:=LMc12.out;omega);intro v345 w20 ho hb hg hat;rw [← Ny344.out] at ho;replace BK336:=am (blk_grown (g:=gb336) (o:=.cells #[.int .i64 a0_0,.int .i64 a0_1,.slice A0_2 l0_2.length c0_2] 51 (0,0)) qq122 hg (Kd.R_ne HO339.out BK336.out (by decide)));replace HO343:=am (Kd.R_after (ok:=(fun _ => True)) qq165 hg hat);replace HB:=am (hb);have HO346:=am (ho);clear HO339;clear ho hb hg hat));try go_wp2_with (first | ((with_reducible refine gate_dst (N:=3) rfl ?_);refine box_event ?hg (N:=3) ?hd (cs:=#[.int .i64 a0_0,.int .i64 a0_1,.slice A0_2 l0_2.length c0_2]) (t:=51) ?hr ?_;(case hd => rfl);(case hg => rfl);(case hr => exact qq186);intro gb336 hg w13 hbox hb;have BK336:=am (hbox);have GW336:=am ((qq73 : w.heap.size ≤ gb336));have GE336:=am ((qq73 : w.heap.size ≤ gb336));replace HB:=am (below_step qq117 hb);clear hb hbox hg) | ((with_reducible refine gate_dst (N:=11) rfl ?_);refine Kd.R_lit (Kd.int .i64) _ 3 ?hg (N:=11) ?hd (xs:=([] : List Int)) (inner:=[]) (ok:=fun _ => True) (okp:=fun _ => True) ?hr ?hp (fun _ hk => hk) trivial (Below.refl _ _) (Nat.le_refl _) (by simp) ?_;(case hd => rfl);(case hg => rfl);(case hr => exact qq186);(case hp => exact qq197);intro v338 w14 ho15 hb hg_ hnew_;clear hg_ hnew_;(first | rw [← Ny337.out] at ho15 | (simp only [Int.reduceToNat] at ho15;rw [← Ny337.out] at ho15));have HO339:=am (Kd.R_lower ho15 (below_size qq77));replace BK336:=am (blk_below (g:=gb336) (o:=.cells #[.int .i64 a0_0,.int .i64 a0_1,.slice A0_2 l0_2.length c0_2] 51 (0,0)) qq122 hb);replace HB:=am (below_step qq77 hb);clear hb ho15;obtain ⟨hcz16_0,hcz16_1,hcz16_2,hfz16_0,hfz16_1,hfz16_2⟩:=bcl3 BK336.out) | (go_at_call 103;(with_reducible refine (spec_Days.calls k a0_0 a0_1 _ _ l0_2 a1 a2 t340 _ ?side1 ?side2 A4.out).mono ?_);(case side1 => exact qq56);(case side2 => exact qq199);rintro e w17 ⟨rfl,hb⟩;replace HO339:=am (Kd.R_below qq166 hb);replace BK336:=am (blk_below (g:=gb336) (o:=.cells #[.int .i64 a0_0,.int .i64 a0_1,.slice A0_2 l0_2.length c0_2] 51 (0,0)) qq122 hb);replace HB:=am (below_step qq77 hb);(try clear hb);(try clear hb2);(try clear hk);(try clear hi);obtain ⟨hcz18_0,hcz18_1,hcz18_2,hfz18_0,hfz18_1,hfz18_2⟩:=bcl3 BK336.out) | (go_at_call 136;(with_reducible refine (spec_l5From.calls k a0_0 a0_1 _ _ l0_2 a2 t341 _ ?side1 ?side2 A11.out).mono ?_);(case side1 => exact qq56);(case side2 => exact qq199);rintro e w19 ⟨v342,rfl,ho0,hb⟩;have HO343:=am (Kd.R_lower (Kd.R_new' ho0 (Kd.R_lt qq166)) (below_size qq77));replace HO339:=am (Kd.R_elder' qq166 (Kd.R_base ho0) hb);replace BK336:=am (blk_below (g:=gb336) (o:=.cells #[.int .i64 a0_0,.int .i64 a0_1,.slice A0_2 l0_2.length c0_2] 51 (0,0)) qq122 hb);replace HB:=am (below_step qq77 hb);(try clear hb);(try clear hb2);(try clear hk);(try clear hi);(try clear ho0)) | ((with_reducible refine gate_builtin (b:=.append) (xs:=#[.tmp 21,.tmp 23]) rfl ?_);at_builtin;refine Kd.R_append (Kd.int .i64) (w0:=w) w.heap.size rfl (.tmp 21) (.tmp 23) 49 3 (.int .i64 0) 8 rfl Try.underlying49 info3 rfl (by decide) (by omega) v338 y337 a1 [.int .i64 a1] (fun k_ => some k_ ≠ (v342 : Value).ownBlock) (fun _ => False) rfl rfl ?aP (fun _ hk => hk.elim) ?aF ?aO ?aB ?aS ?aL ?_;(case aP => exact rfl);(case aB => exact qq66);(case aF => exact qq102);(case aO => exact qq104);(case aS => exact qq50);(case aL => have:=LMc12.out;omega);intro v345 w20 ho hb hg hat;rw [← Ny344.out] at ho;replace BK336:=am (blk_grown (g:=gb336) (o:=.cells #[.int .i64 a0_0,.int .i64 a0_1,.slice A0_2 l0_2.length c0_2] 51 (0,0)) qq122 hg (Kd.R_ne HO339.out BK336.out (by decide)));replace HO343:=am (Kd.R_after (ok:=(fun _ => True)) qq165 hg hat);replace HB:=am (hb);have HO346:=am (ho);clear HO339;clear ho hb hg hat)))
   go_loopg [1,7] k (fun kq v1 v7 w' => ∃ (x1_1 : Int) (x7_1 : List Int),v1 = .int .i64 x1_1 ∧ Aside0 (spec_WayTo.l0 kq x1_1 a2 x7_1 t341 a0_0 a0_1 l0_2 = some r) ∧ Aside0 (kq ≤ k) ∧ Aside0 (Kd.R (Kd.int .i64) 3 w' w.heap.size (fun k_ => some k_ ≠ (v342 : Value).ownBlock) v7 x7_1) ∧ Aside0 (Kd.R (Kd.int .i64) 3 w' w.heap.size (fun k_ => some k_ ≠ (v7 : Value).ownBlock) v342 t341) ∧ Aside0 (w'.heap[gb336]? = some (.cells #[.int .i64 a0_0,.int .i64 a0_1,(.slice A0_2 l0_2.length c0_2)] 51 (0,0))) ∧ Aside0 (Below w.heap.size w w'))
   case atStart => exact ⟨(a1),(y344),qq185,H',⟨Nat.le_refl _⟩,⟨by (with_reducible repeat (first | apply kA | apply kN | apply kD));exact HO346.out⟩,⟨by (with_reducible repeat (first | apply kA | apply kN | apply kD));exact Kd.R_mono HO343.out (fun _ hk => hk.2)⟩,⟨qq122⟩,⟨qq77⟩⟩
   case round =>
    clear H'
    try clear c1
    try clear p2
    try clear c5
    try clear c5b0
    try clear c10
    try clear c12
    try clear hcz16_0
    try clear hcz16_1
    try clear hcz16_2
    try clear hcz18_0
    try clear hcz18_1
    try clear hcz18_2
    try clear hcz9_0
    try clear hcz9_1
    try clear hcz9_2
    try clear hfz16_0
    try clear hfz16_1
    try clear hfz16_2
    try clear hfz18_0
    try clear hfz18_1
    try clear hfz18_2
    try clear hfz9_0
    try clear hfz9_1
    try clear hfz9_2
    obtain ⟨x1_1,x7_1,rfl,HA,HK1,HO_7,HO_8,BK336,HB⟩:=hrel
    cases gk with
    | zero => exact absurd HA.out (by simp [spec_WayTo.l0])
    | succ k1 =>
     have H:=HA.out;clear HA;simp only [spec_WayTo.l0] at H
     by_cases c21 : x1_1 = a2
     ·rw [if_pos c21] at H;have c21b0 : (x1_1 == a2) = true:=beq_iff_eq.mpr c21;have c21b1 : (x1_1 != a2) = false:=bne_eq_false_iff_eq.mpr c21;clear c21;obtain rfl:=Option.some.inj H;go_wp2
      repeat (go_quiet (fail);try go_wp2)
      go_ret
      exact ⟨_,qq147,by (with_reducible repeat (first | apply kA | apply kN | apply kD));exact Kd.R_mono HO_7.out (fun _ hk => trivial),qq77⟩
     ·rw [if_neg c21] at H;have c21b0 : (x1_1 == a2) = false:=beq_eq_false_iff_ne.mpr c21;have c21b1 : (x1_1 != a2) = true:=bne_iff_ne.mpr c21;replace H:=bS.mp H;obtain ⟨t347,A220,H⟩:=H;replace H : (spec_WayTo.l1 k1 x1_1 a2 x7_1 t341 t347 (wrap64 ((t347.length : Int) - 1)) a0_0 a0_1 l0_2) = some r:=H;have A22:=am A220;clear A220;have H':=am H;clear H;obtain ⟨hcz23_0,hcz23_1,hcz23_2,hfz23_0,hfz23_1,hfz23_2⟩:=bcl3 BK336.out;go_wp2_with (first | (go_at_call 138;(with_reducible refine (spec_l4Near.calls k1 a0_0 a0_1 _ _ l0_2 x1_1 t347 _ ?side1 ?side2 A22.out).mono ?_);(case side1 => exact qq56);(case side2 => exact qq199);rintro e w24 ⟨v348,rfl,ho0,hb⟩;have HO349:=am (Kd.R_lower (Kd.R_new' (Kd.R_new' ho0 (Kd.R_lt qq177)) (Kd.R_lt qq176)) (below_size qq77));replace HO_7:=am (Kd.R_elder' qq177 (Kd.R_base ho0) hb);replace HO_8:=am (Kd.R_elder' qq176 (Kd.R_base ho0) hb);replace BK336:=am (blk_below (g:=gb336) (o:=.cells #[.int .i64 a0_0,.int .i64 a0_1,.slice A0_2 l0_2.length c0_2] 51 (0,0)) qq122 hb);replace HB:=am (below_step qq77 hb);(try clear hb);(try clear hb2);(try clear hk);(try clear hi);(try clear ho0);obtain ⟨Ao25,co25,eo25⟩:=Kd.R_slice HO349.out;subst eo25))
      repeat (go_quiet (first | (go_at_call 138;(with_reducible refine (spec_l4Near.calls k1 a0_0 a0_1 _ _ l0_2 x1_1 t347 _ ?side1 ?side2 A22.out).mono ?_);(case side1 => exact qq56);(case side2 => exact qq199);rintro e w24 ⟨v348,rfl,ho0,hb⟩;have HO349:=am (Kd.R_lower (Kd.R_new' (Kd.R_new' ho0 (Kd.R_lt qq177)) (Kd.R_lt qq176)) (below_size qq77));replace HO_7:=am (Kd.R_elder' qq177 (Kd.R_base ho0) hb);replace HO_8:=am (Kd.R_elder' qq176 (Kd.R_base ho0) hb);replace BK336:=am (blk_below (g:=gb336) (o:=.cells #[.int .i64 a0_0,.int .i64 a0_1,.slice A0_2 l0_2.length c0_2] 51 (0,0)) qq122 hb);replace HB:=am (below_step qq77 hb);(try clear hb);(try clear hb2);(try clear hk);(try clear hi);(try clear ho0);obtain ⟨Ao25,co25,eo25⟩:=Kd.R_slice HO349.out;subst eo25));try go_wp2_with (first | (go_at_call 138;(with_reducible refine (spec_l4Near.calls k1 a0_0 a0_1 _ _ l0_2 x1_1 t347 _ ?side1 ?side2 A22.out).mono ?_);(case side1 => exact qq56);(case side2 => exact qq199);rintro e w24 ⟨v348,rfl,ho0,hb⟩;have HO349:=am (Kd.R_lower (Kd.R_new' (Kd.R_new' ho0 (Kd.R_lt qq177)) (Kd.R_lt qq176)) (below_size qq77));replace HO_7:=am (Kd.R_elder' qq177 (Kd.R_base ho0) hb);replace HO_8:=am (Kd.R_elder' qq176 (Kd.R_base ho0) hb);replace BK336:=am (blk_below (g:=gb336) (o:=.cells #[.int .i64 a0_0,.int .i64 a0_1,.slice A0_2 l0_2.length c0_2] 51 (0,0)) qq122 hb);replace HB:=am (below_step qq77 hb);(try clear hb);(try clear hb2);(try clear hk);(try clear hi);(try clear ho0);obtain ⟨Ao25,co25,eo25⟩:=Kd.R_slice HO349.out;subst eo25)))
      go_loopg [1,10] k1 (fun kq v1 v10 w' => ∃ (x1_2 : Int) (x10_2 : Int),v1 = .int .i64 x1_2 ∧ v10 = .int .i64 x10_2 ∧ Aside0 (spec_WayTo.l1 kq x1_2 a2 x7_1 t341 t347 x10_2 a0_0 a0_1 l0_2 = some r) ∧ Aside0 (kq ≤ k1) ∧ Aside0 (Kd.R (Kd.int .i64) 3 w' w.heap.size (fun k_ => some k_ ≠ (v342 : Value).ownBlock ∧ some k_ ≠ ((.slice Ao25 t347.length co25) : Value).ownBlock) u7 x7_1) ∧ Aside0 (Kd.R (Kd.int .i64) 3 w' w.heap.size (fun k_ => some k_ ≠ (u7 : Value).ownBlock ∧ some k_ ≠ ((.slice Ao25 t347.length co25) : Value).ownBlock) v342 t341) ∧ Aside0 (Kd.R (Kd.int .i64) 3 w' w.heap.size (fun k_ => some k_ ≠ (u7 : Value).ownBlock ∧ some k_ ≠ (v342 : Value).ownBlock) (.slice Ao25 t347.length co25) t347) ∧ Aside0 (w'.heap[gb336]? = some (.cells #[.int .i64 a0_0,.int .i64 a0_1,(.slice A0_2 l0_2.length c0_2)] 51 (0,0))) ∧ Aside0 (Below w.heap.size w w'))
      case atStart => exact ⟨(x1_1),(wrap64 ((t347.length : Int) - 1)),qq185,qq185,H',⟨Nat.le_refl _⟩,⟨qq177⟩,⟨qq176⟩,⟨by (with_reducible repeat (first | apply kA | apply kN | apply kD));exact Kd.R_mono HO349.out (fun _ hk => ⟨hk.1.2,hk.2⟩)⟩,⟨qq122⟩,⟨qq77⟩⟩
      case round =>
       clear H'
       try clear c1
       try clear c2
       try clear p2
       try clear c5
       try clear c5b0
       try clear p6
       try clear c10
       try clear c12
       try clear c21
       try clear c21b0
       try clear c21b1
       try clear hcz16_0
       try clear hcz16_1
       try clear hcz16_2
       try clear hcz18_0
       try clear hcz18_1
       try clear hcz18_2
       try clear hcz23_0
       try clear hcz23_1
       try clear hcz23_2
       try clear hcz9_0
       try clear hcz9_1
       try clear hcz9_2
       try clear hfz16_0
       try clear hfz16_1
       try clear hfz16_2
       try clear hfz18_0
       try clear hfz18_1
       try clear hfz18_2
       try clear hfz23_0
       try clear hfz23_1
       try clear hfz23_2
       try clear hfz9_0
       try clear hfz9_1
       try clear hfz9_2
       try clear p2
       obtain ⟨x1_2,x10_2,rfl,rfl,HA,HK2,HO_7,HO_8,HO_9,BK336,HB⟩:=hrel
       cases gk with
       | zero => exact absurd HA.out (by simp [spec_WayTo.l1])
       | succ k2 =>
        have H:=HA.out;clear HA;simp only [spec_WayTo.l1] at H
        by_cases c26 : x10_2 ≥ 0
        ·rw [if_pos c26] at H;have c26b0 : decide (0 ≤ x10_2) = true:=decide_eq_true c26;clear c26
         by_cases c27 : 0 ≤ x10_2
         ·rw [if_pos c27] at H;have c27b0 : decide (0 ≤ x10_2) = true:=decide_eq_true c27;clear c27
          by_cases c28 : x10_2 < (t347.length : Int)
          ·rw [if_pos c28] at H;have c28b0 : decide (x10_2 < (t347.length : Int)) = true:=decide_eq_true c28;clear c28
           by_cases c29 : 0 ≤ (rd t347 x10_2)
           ·rw [if_pos c29] at H;have c29b0 : decide (0 ≤ (rd t347 x10_2)) = true:=decide_eq_true c29;clear c29
            by_cases c30 : (rd t347 x10_2) < (t341.length : Int)
            ·rw [if_pos c30] at H;have c30b0 : decide ((rd t347 x10_2) < (t341.length : Int)) = true:=decide_eq_true c30;clear c30;obtain ⟨ji31,hji31⟩ : ∃ j_ : Int,(wrap64 ((x7_1.length : Int) - 1)) = j_:=⟨_,rfl⟩
             replace H : (if 0 ≤ (ji31) then (if (ji31) < (x7_1.length : Int) then (if 0 ≤ (rd x7_1 (ji31)) then (if (rd x7_1 (ji31)) < (t341.length : Int) then (if (rd t341 (rd t347 x10_2)) = (wrap64 ((rd t341 (rd x7_1 (ji31))) - 1)) then (spec_WayTo.l1 k2 (rd t347 x10_2) a2 x7_1 t341 t347 (wrap64 (x10_2 - 1)) a0_0 a0_1 l0_2) else (spec_WayTo.l1 k2 x1_2 a2 x7_1 t341 t347 (wrap64 (x10_2 - 1)) a0_0 a0_1 l0_2)) else (none)) else (none)) else (none)) else (none)) = some r:=by first | (rw [hji31] at H;exact H) | (simp only [hji31] at H ⊢;exact H)
             have hji31w : (IntKind.i64.wrap ((x7_1.length : Int) - 1)) = ji31:=(i64_w _).trans hji31
             by_cases c32 : 0 ≤ (ji31)
             ·rw [if_pos c32] at H;have c32b0 : decide (0 ≤ (ji31)) = true:=decide_eq_true c32;clear c32
              by_cases c33 : (ji31) < (x7_1.length : Int)
              ·rw [if_pos c33] at H;have c33b0 : decide ((ji31) < (x7_1.length : Int)) = true:=decide_eq_true c33;clear c33
               by_cases c34 : 0 ≤ (rd x7_1 (ji31))
               ·rw [if_pos c34] at H;have c34b0 : decide (0 ≤ (rd x7_1 (ji31))) = true:=decide_eq_true c34;clear c34
                by_cases c35 : (rd x7_1 (ji31)) < (t341.length : Int)
                ·rw [if_pos c35] at H;have c35b0 : decide ((rd x7_1 (ji31)) < (t341.length : Int)) = true:=decide_eq_true c35;clear c35
                 by_cases c36 : (rd t341 (rd t347 x10_2)) = (wrap64 ((rd t341 (rd x7_1 (ji31))) - 1))
                 ·rw [if_pos c36] at H;have c36b0 : ((rd t341 (rd t347 x10_2)) == (wrap64 ((rd t341 (rd x7_1 (ji31))) - 1))) = true:=beq_iff_eq.mpr c36;have c36b1 : ((rd t341 (rd t347 x10_2)) != (wrap64 ((rd t341 (rd x7_1 (ji31))) - 1))) = false:=bne_eq_false_iff_eq.mpr c36;clear c36;have H':=am H;clear H;have p350 : 0 ≤ (x10_2 : Int):=odt qq183;have q350 : x10_2 < (t347.length : Int):=odt qq183;obtain ⟨ad350,e350,hx350_0⟩:=Kd.at_int (Kd.R_reads' HO_9.out).2.2 x10_2 p350 q350
                  cases e350
                  replace p350:=eq_true p350;replace q350:=eq_true q350;obtain ⟨Ao37,co37,eo37⟩:=Kd.R_slice HO_8.out;subst eo37;have p351 : 0 ≤ ((rd t347 x10_2) : Int):=odt qq183;have q351 : (rd t347 x10_2) < (t341.length : Int):=odt qq183;obtain ⟨ad351,e351,hx351_0⟩:=Kd.at_int (Kd.R_reads' HO_8.out).2.2 (rd t347 x10_2) p351 q351
                  cases e351
                  replace p351:=eq_true p351;replace q351:=eq_true q351;obtain ⟨Ao38,co38,eo38⟩:=Kd.R_slice HO_7.out;subst eo38;have p352 : 0 ≤ ((ji31) : Int):=odt qq183;have q352 : (ji31) < (x7_1.length : Int):=odt qq183;obtain ⟨ad352,e352,hx352_0⟩:=Kd.at_int (Kd.R_reads' HO_7.out).2.2 (ji31) p352 q352
                  cases e352
                  replace p352:=eq_true p352;replace q352:=eq_true q352;have p353 : 0 ≤ ((rd x7_1 (ji31)) : Int):=odt qq183;have q353 : (rd x7_1 (ji31)) < (t341.length : Int):=odt qq183;obtain ⟨ad353,e353,hx353_0⟩:=Kd.at_int (Kd.R_reads' HO_8.out).2.2 (rd x7_1 (ji31)) p353 q353;obtain rfl : ad351 = ad353:=(by injection e353)
                  replace p353:=eq_true p353;replace q353:=eq_true q353;have p354 : 0 ≤ (x10_2 : Int):=odt qq183;have q354 : x10_2 < (t347.length : Int):=odt qq183;obtain ⟨ad354,e354,hx354_0⟩:=Kd.at_int (Kd.R_reads' HO_9.out).2.2 x10_2 p354 q354;obtain rfl : ad350 = ad354:=(by injection e354)
                  replace p354:=eq_true p354;replace q354:=eq_true q354;go_wp2
                  repeat (go_quiet (fail);try go_wp2)
                  go_roundg k2
                  case measure => have:=HK1.out;have:=HK2.out;omega
                  case rel => exact ⟨(rd t347 x10_2),(wrap64 (x10_2 - 1)),qq185,qq185,H',⟨qq188⟩,⟨qq177⟩,⟨qq176⟩,⟨qq175⟩,⟨qq122⟩,⟨qq77⟩⟩
                 ·rw [if_neg c36] at H;have c36b0 : ((rd t341 (rd t347 x10_2)) == (wrap64 ((rd t341 (rd x7_1 (ji31))) - 1))) = false:=beq_eq_false_iff_ne.mpr c36;have c36b1 : ((rd t341 (rd t347 x10_2)) != (wrap64 ((rd t341 (rd x7_1 (ji31))) - 1))) = true:=bne_iff_ne.mpr c36;have H':=am H;clear H;have p350 : 0 ≤ (x10_2 : Int):=odt qq183;have q350 : x10_2 < (t347.length : Int):=odt qq183;obtain ⟨ad350,e350,hx350_0⟩:=Kd.at_int (Kd.R_reads' HO_9.out).2.2 x10_2 p350 q350
                  cases e350
                  replace p350:=eq_true p350;replace q350:=eq_true q350;obtain ⟨Ao39,co39,eo39⟩:=Kd.R_slice HO_8.out;subst eo39;have p351 : 0 ≤ ((rd t347 x10_2) : Int):=odt qq183;have q351 : (rd t347 x10_2) < (t341.length : Int):=odt qq183;obtain ⟨ad351,e351,hx351_0⟩:=Kd.at_int (Kd.R_reads' HO_8.out).2.2 (rd t347 x10_2) p351 q351
                  cases e351
                  replace p351:=eq_true p351;replace q351:=eq_true q351;obtain ⟨Ao40,co40,eo40⟩:=Kd.R_slice HO_7.out;subst eo40;have p352 : 0 ≤ ((ji31) : Int):=odt qq183;have q352 : (ji31) < (x7_1.length : Int):=odt qq183;obtain ⟨ad352,e352,hx352_0⟩:=Kd.at_int (Kd.R_reads' HO_7.out).2.2 (ji31) p352 q352
                  cases e352
                  replace p352:=eq_true p352;replace q352:=eq_true q352;have p353 : 0 ≤ ((rd x7_1 (ji31)) : Int):=odt qq183;have q353 : (rd x7_1 (ji31)) < (t341.length : Int):=odt qq183;obtain ⟨ad353,e353,hx353_0⟩:=Kd.at_int (Kd.R_reads' HO_8.out).2.2 (rd x7_1 (ji31)) p353 q353;obtain rfl : ad351 = ad353:=(by injection e353)
                  replace p353:=eq_true p353;replace q353:=eq_true q353;go_wp2
                  repeat (go_quiet (fail);try go_wp2)
                  go_roundg k2
                  case measure => have:=HK1.out;have:=HK2.out;omega
                  case rel => exact ⟨(x1_2),(wrap64 (x10_2 - 1)),qq185,qq185,H',⟨qq188⟩,⟨qq177⟩,⟨qq176⟩,⟨qq175⟩,⟨qq122⟩,⟨qq77⟩⟩
                ·rw [if_neg c35] at H;exact absurd H (by simp)
               ·rw [if_neg c34] at H;exact absurd H (by simp)
              ·rw [if_neg c33] at H;exact absurd H (by simp)
             ·rw [if_neg c32] at H;exact absurd H (by simp)
            ·rw [if_neg c30] at H;exact absurd H (by simp)
           ·rw [if_neg c29] at H;exact absurd H (by simp)
          ·rw [if_neg c28] at H;exact absurd H (by simp)
         ·rw [if_neg c27] at H;exact absurd H (by simp)
        ·rw [if_neg c26] at H;have c26b0 : decide (0 ≤ x10_2) = false:=decide_eq_false c26;clear c26
         by_cases c41 : x7_1.length < 17592186044416
         ·rw [if_pos c41] at H;have LMc41:=am c41;clear c41;obtain ⟨y355,hy355⟩ : ∃ y_ : List Int,y_ = (x7_1 ++ [x1_2]):=⟨_,rfl⟩
          replace H : (spec_WayTo.l0 k2 x1_2 a2 y355 t341 a0_0 a0_1 l0_2) = some r:=by first | (rw [hy355];with_reducible exact H) | (have H2_:=(Option.bind_some _ _).symm.trans H;rw [hy355];with_reducible exact H2_) | (have H2_:=(Option.bind_some _ _).symm.trans H;with_reducible exact H2_) | with_reducible exact H | (rw [hy355];exact H) | exact H
          have Ny355:=am hy355;clear hy355;have H':=am H;clear H;go_wp2_with (first | ((with_reducible refine gate_builtin (b:=.append) (xs:=#[.tmp 60,.tmp 62]) rfl ?_);at_builtin;refine Kd.R_append (Kd.int .i64) (w0:=w) w.heap.size rfl (.tmp 60) (.tmp 62) 49 3 (.int .i64 0) 8 rfl Try.underlying49 info3 rfl (by decide) (by omega) u7 x7_1 x1_2 [.int .i64 x1_2] (fun k_ => some k_ ≠ (v342 : Value).ownBlock ∧ some k_ ≠ (.slice Ao25 t347.length co25 : Value).ownBlock) (fun _ => False) rfl rfl ?aP (fun _ hk => hk.elim) ?aF ?aO ?aB ?aS ?aL ?_;(case aP => exact rfl);(case aB => exact qq66);(case aF => exact qq11);(case aO => exact qq152);(case aS => exact qq50);(case aL => have:=LMc41.out;omega);intro v356 w42 ho hb hg hat;rw [← Ny355.out] at ho;replace HO_8:=am (Kd.R_after (ok:=(fun k_ => some k_ ≠ (.slice Ao25 t347.length co25 : Value).ownBlock)) qq109 hg hat);replace HO_9:=am (Kd.R_after (ok:=(fun k_ => some k_ ≠ (v342 : Value).ownBlock)) qq108 hg hat);replace BK336:=am (blk_grown (g:=gb336) (o:=.cells #[.int .i64 a0_0,.int .i64 a0_1,.slice A0_2 l0_2.length c0_2] 51 (0,0)) qq122 hg (Kd.R_ne HO_7.out BK336.out (by decide)));replace HB:=am (hb);have HO357:=am (ho);clear HO_7;clear ho hb hg hat))
          repeat (go_quiet (first | ((with_reducible refine gate_builtin (b:=.append) (xs:=#[.tmp 60,.tmp 62]) rfl ?_);at_builtin;refine Kd.R_append (Kd.int .i64) (w0:=w) w.heap.size rfl (.tmp 60) (.tmp 62) 49 3 (.int .i64 0) 8 rfl Try.underlying49 info3 rfl (by decide) (by omega) u7 x7_1 x1_2 [.int .i64 x1_2] (fun k_ => some k_ ≠ (v342 : Value).ownBlock ∧ some k_ ≠ (.slice Ao25 t347.length co25 : Value).ownBlock) (fun _ => False) rfl rfl ?aP (fun _ hk => hk.elim) ?aF ?aO ?aB ?aS ?aL ?_;(case aP => exact rfl);(case aB => exact qq66);(case aF => exact qq11);(case aO => exact qq152);(case aS => exact qq50);(case aL => have:=LMc41.out;omega);intro v356 w42 ho hb hg hat;rw [← Ny355.out] at ho;replace HO_8:=am (Kd.R_after (ok:=(fun k_ => some k_ ≠ (.slice Ao25 t347.length co25 : Value).ownBlock)) qq109 hg hat);replace HO_9:=am (Kd.R_after (ok:=(fun k_ => some k_ ≠ (v342 : Value).ownBlock)) qq108 hg hat);replace BK336:=am (blk_grown (g:=gb336) (o:=.cells #[.int .i64 a0_0,.int .i64 a0_1,.slice A0_2 l0_2.length c0_2] 51 (0,0)) qq122 hg (Kd.R_ne HO_7.out BK336.out (by decide)));replace HB:=am (hb);have HO357:=am (ho);clear HO_7;clear ho hb hg hat));try go_wp2_with (first | ((with_reducible refine gate_builtin (b:=.append) (xs:=#[.tmp 60,.tmp 62]) rfl ?_);at_builtin;refine Kd.R_append (Kd.int .i64) (w0:=w) w.heap.size rfl (.tmp 60) (.tmp 62) 49 3 (.int .i64 0) 8 rfl Try.underlying49 info3 rfl (by decide) (by omega) u7 x7_1 x1_2 [.int .i64 x1_2] (fun k_ => some k_ ≠ (v342 : Value).ownBlock ∧ some k_ ≠ (.slice Ao25 t347.length co25 : Value).ownBlock) (fun _ => False) rfl rfl ?aP (fun _ hk => hk.elim) ?aF ?aO ?aB ?aS ?aL ?_;(case aP => exact rfl);(case aB => exact qq66);(case aF => exact qq11);(case aO => exact qq152);(case aS => exact qq50);(case aL => have:=LMc41.out;omega);intro v356 w42 ho hb hg hat;rw [← Ny355.out] at ho;replace HO_8:=am (Kd.R_after (ok:=(fun k_ => some k_ ≠ (.slice Ao25 t347.length co25 : Value).ownBlock)) qq109 hg hat);replace HO_9:=am (Kd.R_after (ok:=(fun k_ => some k_ ≠ (v342 : Value).ownBlock)) qq108 hg hat);replace BK336:=am (blk_grown (g:=gb336) (o:=.cells #[.int .i64 a0_0,.int .i64 a0_1,.slice A0_2 l0_2.length c0_2] 51 (0,0)) qq122 hg (Kd.R_ne HO_7.out BK336.out (by decide)));replace HB:=am (hb);have HO357:=am (ho);clear HO_7;clear ho hb hg hat)))
          go_roundg k2
          case measure => have:=HK1.out;have:=HK2.out;omega
          case rel => exact ⟨(x1_2),(y355),qq185,H',⟨qq188⟩,⟨by (with_reducible repeat (first | apply kA | apply kN | apply kD));exact Kd.R_mono HO357.out (fun _ hk => hk.1)⟩,⟨by (with_reducible repeat (first | apply kA | apply kN | apply kD));exact Kd.R_mono HO_8.out (fun _ hk => hk.2)⟩,⟨qq122⟩,⟨qq77⟩⟩
         ·rw [if_neg c41] at H;exact absurd H (by simp)
  ·rw [if_neg c12] at H;exact absurd H (by simp)

end Go.Proofs.Ytcbkknpmeknppaa.PFnExactPlanDays
