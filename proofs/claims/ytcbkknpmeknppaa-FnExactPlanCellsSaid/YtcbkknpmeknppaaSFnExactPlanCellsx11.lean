/- Contracts of functions that the law FnExactPlanCells reaches, for its row: lines that the kit's printer wrote for this claim, set shorter by a program of this session (own.py), and what fell in Lean proved anew. Lean checks them. -/
import Derived.Test.YtcbkknpmeknppaaSFnExactPlanCellsx0
import Derived.Test.YtcbkknpmeknppaaSFnExactPlanCellsx8
import Derived.Test.YtcbkknpmeknppaaSFnExactPlanCellsx9
namespace Go.Proofs.Ytcbkknpmeknppaa.PFnExactPlanCells
open Go.RowKit Go.Proofs.YtcbkknpmeknppaaW.PrintWords Go.Proofs.YtcbkknpmeknppaaW.PrintLast Go.Proofs.YtcbkknpmeknppaaW.PrintMore
attribute [local go_sem] max2_int min2_int max_two min_two max_three min_three max_four min_four   -- for this text's walks alone
set_option linter.unusedVariables false
set_option linter.unusedSimpArgs false

/-! ### spec_WayTo: function 109 -/
mutual
def spec_WayTo.l0 : Nat → Int → Int → List Int → List Int → Int → Int → List Int → Option (List Int)
 | 0,_,_,_,_,_,_,_ => none
 | k + 1,x1,x2,x7,x8,x333000,x333001,x333002 => if x1 = x2 then (some x7) else ((spec_l4Near.f k x333000 x333001 x333002 x1).bind fun t343 => (spec_WayTo.l1 k x1 x2 x7 x8 t343 (wrap64 ((t343.length : Int) - 1)) x333000 x333001 x333002))
def spec_WayTo.l1 : Nat → Int → Int → List Int → List Int → List Int → Int → Int → Int → List Int → Option (List Int)
 | 0,_,_,_,_,_,_,_,_,_ => none
 | k + 1,x1,x2,x7,x8,x9,x10,x333000,x333001,x333002 => if x10 ≥ 0 then (if 0 ≤ x10 then (if x10 < (x9.length : Int) then (if 0 ≤ (rd x9 x10) then (if (rd x9 x10) < (x8.length : Int) then (if 0 ≤ (wrap64 ((x7.length : Int) - 1)) then (if (wrap64 ((x7.length : Int) - 1)) < (x7.length : Int) then (if 0 ≤ (rd x7 (wrap64 ((x7.length : Int) - 1))) then (if (rd x7 (wrap64 ((x7.length : Int) - 1))) < (x8.length : Int) then (if (rd x8 (rd x9 x10)) = (wrap64 ((rd x8 (rd x7 (wrap64 ((x7.length : Int) - 1)))) - 1)) then (spec_WayTo.l1 k (rd x9 x10) x2 x7 x8 x9 (wrap64 (x10 - 1)) x333000 x333001 x333002) else (spec_WayTo.l1 k x1 x2 x7 x8 x9 (wrap64 (x10 - 1)) x333000 x333001 x333002)) else (none)) else (none)) else (none)) else (none)) else (none)) else (none)) else (none)) else (none)) else (if x7.length < 17592186044416 then (spec_WayTo.l0 k x1 x2 (x7 ++ [x1]) x8 x333000 x333001 x333002) else (none))
end
def spec_WayTo.f (k : Nat) (a0_0 : Int) (a0_1 : Int) (l0_2 : List Int) (a1 : Int) (a2 : Int) : Option (List Int) := (some (([] : List Int) : List Int)).bind fun y333 => ((spec_Days.f k a0_0 a0_1 l0_2 a1 a2).bind fun t336 => (if t336 < 0 then (some y333) else ((spec_l5From.f k a0_0 a0_1 l0_2 a2).bind fun t337 => (if y333.length < 17592186044416 then (spec_WayTo.l0 k a1 a2 (y333 ++ [a1]) t337 a0_0 a0_1 l0_2) else (none)))))
theorem spec_WayTo.mono_l : ∀ k, (∀ y0 y1 y2 y3 y4 y5 y6, LeO (spec_WayTo.l0 k y0 y1 y2 y3 y4 y5 y6) (spec_WayTo.l0 (k + 1) y0 y1 y2 y3 y4 y5 y6)) ∧ (∀ y0 y1 y2 y3 y4 y5 y6 y7 y8, LeO (spec_WayTo.l1 k y0 y1 y2 y3 y4 y5 y6 y7 y8) (spec_WayTo.l1 (k + 1) y0 y1 y2 y3 y4 y5 y6 y7 y8))
 | 0 => ⟨fun _ _ _ _ _ _ _ r h => by simp [spec_WayTo.l0] at h,fun _ _ _ _ _ _ _ _ _ r h => by simp [spec_WayTo.l1] at h⟩
 | k + 1 => by
  obtain ⟨ih0,ih1⟩:=spec_WayTo.mono_l k
  refine ⟨?_,?_⟩
  ·intro y0 y1 y2 y3 y4 y5 y6
   unfold spec_WayTo.l0
   repeat' first
   | (with_reducible exact ih0 _ _ _ _ _ _ _)
   | (with_reducible exact ih1 _ _ _ _ _ _ _ _ _)
   | (with_reducible exact spec_Days.mono _ _ _ _ _ _)
   | (with_reducible exact spec_l4Near.mono _ _ _ _ _)
   | (with_reducible exact spec_l5From.mono _ _ _ _ _)
   | (with_reducible exact LeO.refl _)
   | (with_reducible exact LeO.none _)
   | (with_reducible refine LeO.ite ?_ ?_)
   | (with_reducible refine LeO.bind ?_ (fun _ => ?_))
   | exact ih0 _ _ _ _ _ _ _
   | exact ih1 _ _ _ _ _ _ _ _ _
   | exact spec_Days.mono _ _ _ _ _ _
   | exact spec_l4Near.mono _ _ _ _ _
   | exact spec_l5From.mono _ _ _ _ _
   | exact LeO.none _
   | refine LeO.ite ?_ ?_
   | refine LeO.bind ?_ (fun _ => ?_)
  ·intro y0 y1 y2 y3 y4 y5 y6 y7 y8
   unfold spec_WayTo.l1
   repeat' first
   | (with_reducible exact ih0 _ _ _ _ _ _ _)
   | (with_reducible exact ih1 _ _ _ _ _ _ _ _ _)
   | (with_reducible exact spec_Days.mono _ _ _ _ _ _)
   | (with_reducible exact spec_l4Near.mono _ _ _ _ _)
   | (with_reducible exact spec_l5From.mono _ _ _ _ _)
   | (with_reducible exact LeO.refl _)
   | (with_reducible exact LeO.none _)
   | (with_reducible refine LeO.ite ?_ ?_)
   | (with_reducible refine LeO.bind ?_ (fun _ => ?_))
   | exact ih0 _ _ _ _ _ _ _
   | exact ih1 _ _ _ _ _ _ _ _ _
   | exact spec_Days.mono _ _ _ _ _ _
   | exact spec_l4Near.mono _ _ _ _ _
   | exact spec_l5From.mono _ _ _ _ _
   | exact LeO.none _
   | refine LeO.ite ?_ ?_
   | refine LeO.bind ?_ (fun _ => ?_)
theorem spec_WayTo.mono : ∀ a0 a1 a2 a3 a4 k, LeO (spec_WayTo.f k a0 a1 a2 a3 a4) (spec_WayTo.f (k + 1) a0 a1 a2 a3 a4) := by
 intro a0 a1 a2 a3 a4 k
 obtain ⟨ih0,ih1⟩:=spec_WayTo.mono_l k
 unfold spec_WayTo.f
 repeat' first
   | (with_reducible exact ih0 _ _ _ _ _ _ _)
   | (with_reducible exact ih1 _ _ _ _ _ _ _ _ _)
   | (with_reducible exact spec_Days.mono _ _ _ _ _ _)
   | (with_reducible exact spec_l4Near.mono _ _ _ _ _)
   | (with_reducible exact spec_l5From.mono _ _ _ _ _)
   | (with_reducible exact LeO.refl _)
   | (with_reducible exact LeO.none _)
   | (with_reducible refine LeO.ite ?_ ?_)
   | (with_reducible refine LeO.bind ?_ (fun _ => ?_))
   | exact ih0 _ _ _ _ _ _ _
   | exact ih1 _ _ _ _ _ _ _ _ _
   | exact spec_Days.mono _ _ _ _ _ _
   | exact spec_l4Near.mono _ _ _ _ _
   | exact spec_l5From.mono _ _ _ _ _
   | exact LeO.none _
   | refine LeO.ite ?_ ?_
   | refine LeO.bind ?_ (fun _ => ?_)
set_option maxHeartbeats 8000000 in
set_option maxRecDepth 100000 in
theorem spec_WayTo.calls (k : Nat) (a0_0 : Int) (a0_1 : Int) (A0_2 : Option Addr) (c0_2 : Nat) (l0_2 : List Int) (a1 : Int) (a2 : Int) (r : List Int) (w : World) (hr0_2 : Kd.C (Kd.int .i64) w A0_2 l0_2.length l0_2) (hc0_2 : l0_2.length ≤ c0_2) (h : spec_WayTo.f k a0_0 a0_1 l0_2 a1 a2 = some r) :
  Calls Try.prog 109 #[.agg #[.int .i64 a0_0,.int .i64 a0_1,.slice A0_2 l0_2.length c0_2],.int .i64 a1,.int .i64 a2] w fun e w' => ∃ v0_ : Value,e = .returned (v0_) ∧ Kd.R (Kd.int .i64) 3 w' w.heap.size (fun _ => True) v0_ r ∧ Below w.heap.size w w':=by
 have hu51:=Try.underlying51;have HR0_2:=am hr0_2;have HC0_2:=am hc0_2;clear hr0_2 hc0_2;have HB:=am (Below.refl w.heap.size w);have H : ((some (([] : List Int) : List Int)).bind fun y333 => ((spec_Days.f k a0_0 a0_1 l0_2 a1 a2).bind fun t336 => (if t336 < 0 then (some y333) else ((spec_l5From.f k a0_0 a0_1 l0_2 a2).bind fun t337 => (if y333.length < 17592186044416 then (spec_WayTo.l0 k a1 a2 (y333 ++ [a1]) t337 a0_0 a0_1 l0_2) else (none)))))) = some r:=h;clear h;obtain ⟨y333,hy333⟩ : ∃ y_ : List Int,y_ = (([] : List Int)):=⟨_,rfl⟩
 replace H : ((spec_Days.f k a0_0 a0_1 l0_2 a1 a2).bind fun t336 => (if t336 < 0 then (some y333) else ((spec_l5From.f k a0_0 a0_1 l0_2 a2).bind fun t337 => (if y333.length < 17592186044416 then (spec_WayTo.l0 k a1 a2 (y333 ++ [a1]) t337 a0_0 a0_1 l0_2) else (none))))) = some r:=by first | (rw [hy333];with_reducible exact H) | (have H2_:=(Option.bind_some _ _).symm.trans H;rw [hy333];with_reducible exact H2_) | (have H2_:=(Option.bind_some _ _).symm.trans H;with_reducible exact H2_) | with_reducible exact H | (rw [hy333];exact H) | exact H
 have Ny333:=am hy333;clear hy333;replace H:=bS.mp H;obtain ⟨t336,A40,H⟩:=H;replace H : (if t336 < 0 then (some y333) else ((spec_l5From.f k a0_0 a0_1 l0_2 a2).bind fun t337 => (if y333.length < 17592186044416 then (spec_WayTo.l0 k a1 a2 (y333 ++ [a1]) t337 a0_0 a0_1 l0_2) else (none)))) = some r:=H;have A4:=am A40;clear A40
 by_cases c5 : t336 < 0
 ·rw [if_pos c5] at H;have c5b0 : decide (t336 < 0) = true:=decide_eq_true c5;clear c5;obtain rfl:=Option.some.inj H
  go_enter Try.func109,Try.ntmps109
  go_wp2_with (first | ((with_reducible refine gate_dst (N:=3) rfl ?_);refine box_event ?hg (N:=3) ?hd (cs:=#[.int .i64 a0_0,.int .i64 a0_1,.slice A0_2 l0_2.length c0_2]) (t:=51) ?hr ?_;(case hd => rfl);(case hg => rfl);(case hr => exact qq219);intro gb332 hg w6 hbox hb;have BK332:=am (hbox);have GW332:=am ((qq85 : w.heap.size ≤ gb332));have GE332:=am ((qq85 : w.heap.size ≤ gb332));replace HB:=am (below_step qq140 hb);clear hb hbox hg) | ((with_reducible refine gate_dst (N:=11) rfl ?_);refine Kd.R_lit (Kd.int .i64) _ 3 ?hg (N:=11) ?hd (xs:=([] : List Int)) (inner:=[]) (ok:=fun _ => True) (okp:=fun _ => True) ?hr ?hp (fun _ hk => hk) trivial (Below.refl _ _) (Nat.le_refl _) (by simp) ?_;(case hd => rfl);(case hg => rfl);(case hr => exact qq219);(case hp => exact qq237);intro v334 w7 ho8 hb hg_ hnew_;clear hg_ hnew_;(first | rw [← Ny333.out] at ho8 | (simp only [Int.reduceToNat] at ho8;rw [← Ny333.out] at ho8));have HO335:=am (Kd.R_lower ho8 (below_size qq89));replace BK332:=am (blk_below (g:=gb332) (o:=.cells #[.int .i64 a0_0,.int .i64 a0_1,.slice A0_2 l0_2.length c0_2] 51 (0,0)) qq145 hb);replace HB:=am (below_step qq89 hb);clear hb ho8;obtain ⟨hcz9_0,hcz9_1,hcz9_2,hfz9_0,hfz9_1,hfz9_2⟩:=bcl3 BK332.out) | (go_at_call 103;(with_reducible refine (spec_Days.calls k a0_0 a0_1 _ _ l0_2 a1 a2 t336 _ ?side1 ?side2 A4.out).mono ?_);(case side1 => exact qq61);(case side2 => exact qq239);rintro e w10 ⟨rfl,hb⟩;replace HO335:=am (Kd.R_below qq195 hb);replace BK332:=am (blk_below (g:=gb332) (o:=.cells #[.int .i64 a0_0,.int .i64 a0_1,.slice A0_2 l0_2.length c0_2] 51 (0,0)) qq145 hb);replace HB:=am (below_step qq89 hb);(try clear hb);(try clear hb2);(try clear hk);(try clear hi)))
  repeat (go_quiet (first | ((with_reducible refine gate_dst (N:=3) rfl ?_);refine box_event ?hg (N:=3) ?hd (cs:=#[.int .i64 a0_0,.int .i64 a0_1,.slice A0_2 l0_2.length c0_2]) (t:=51) ?hr ?_;(case hd => rfl);(case hg => rfl);(case hr => exact qq219);intro gb332 hg w6 hbox hb;have BK332:=am (hbox);have GW332:=am ((qq85 : w.heap.size ≤ gb332));have GE332:=am ((qq85 : w.heap.size ≤ gb332));replace HB:=am (below_step qq140 hb);clear hb hbox hg) | ((with_reducible refine gate_dst (N:=11) rfl ?_);refine Kd.R_lit (Kd.int .i64) _ 3 ?hg (N:=11) ?hd (xs:=([] : List Int)) (inner:=[]) (ok:=fun _ => True) (okp:=fun _ => True) ?hr ?hp (fun _ hk => hk) trivial (Below.refl _ _) (Nat.le_refl _) (by simp) ?_;(case hd => rfl);(case hg => rfl);(case hr => exact qq219);(case hp => exact qq237);intro v334 w7 ho8 hb hg_ hnew_;clear hg_ hnew_;(first | rw [← Ny333.out] at ho8 | (simp only [Int.reduceToNat] at ho8;rw [← Ny333.out] at ho8));have HO335:=am (Kd.R_lower ho8 (below_size qq89));replace BK332:=am (blk_below (g:=gb332) (o:=.cells #[.int .i64 a0_0,.int .i64 a0_1,.slice A0_2 l0_2.length c0_2] 51 (0,0)) qq145 hb);replace HB:=am (below_step qq89 hb);clear hb ho8;obtain ⟨hcz9_0,hcz9_1,hcz9_2,hfz9_0,hfz9_1,hfz9_2⟩:=bcl3 BK332.out) | (go_at_call 103;(with_reducible refine (spec_Days.calls k a0_0 a0_1 _ _ l0_2 a1 a2 t336 _ ?side1 ?side2 A4.out).mono ?_);(case side1 => exact qq61);(case side2 => exact qq239);rintro e w10 ⟨rfl,hb⟩;replace HO335:=am (Kd.R_below qq195 hb);replace BK332:=am (blk_below (g:=gb332) (o:=.cells #[.int .i64 a0_0,.int .i64 a0_1,.slice A0_2 l0_2.length c0_2] 51 (0,0)) qq145 hb);replace HB:=am (below_step qq89 hb);(try clear hb);(try clear hb2);(try clear hk);(try clear hi)));try go_wp2_with (first | ((with_reducible refine gate_dst (N:=3) rfl ?_);refine box_event ?hg (N:=3) ?hd (cs:=#[.int .i64 a0_0,.int .i64 a0_1,.slice A0_2 l0_2.length c0_2]) (t:=51) ?hr ?_;(case hd => rfl);(case hg => rfl);(case hr => exact qq219);intro gb332 hg w6 hbox hb;have BK332:=am (hbox);have GW332:=am ((qq85 : w.heap.size ≤ gb332));have GE332:=am ((qq85 : w.heap.size ≤ gb332));replace HB:=am (below_step qq140 hb);clear hb hbox hg) | ((with_reducible refine gate_dst (N:=11) rfl ?_);refine Kd.R_lit (Kd.int .i64) _ 3 ?hg (N:=11) ?hd (xs:=([] : List Int)) (inner:=[]) (ok:=fun _ => True) (okp:=fun _ => True) ?hr ?hp (fun _ hk => hk) trivial (Below.refl _ _) (Nat.le_refl _) (by simp) ?_;(case hd => rfl);(case hg => rfl);(case hr => exact qq219);(case hp => exact qq237);intro v334 w7 ho8 hb hg_ hnew_;clear hg_ hnew_;(first | rw [← Ny333.out] at ho8 | (simp only [Int.reduceToNat] at ho8;rw [← Ny333.out] at ho8));have HO335:=am (Kd.R_lower ho8 (below_size qq89));replace BK332:=am (blk_below (g:=gb332) (o:=.cells #[.int .i64 a0_0,.int .i64 a0_1,.slice A0_2 l0_2.length c0_2] 51 (0,0)) qq145 hb);replace HB:=am (below_step qq89 hb);clear hb ho8;obtain ⟨hcz9_0,hcz9_1,hcz9_2,hfz9_0,hfz9_1,hfz9_2⟩:=bcl3 BK332.out) | (go_at_call 103;(with_reducible refine (spec_Days.calls k a0_0 a0_1 _ _ l0_2 a1 a2 t336 _ ?side1 ?side2 A4.out).mono ?_);(case side1 => exact qq61);(case side2 => exact qq239);rintro e w10 ⟨rfl,hb⟩;replace HO335:=am (Kd.R_below qq195 hb);replace BK332:=am (blk_below (g:=gb332) (o:=.cells #[.int .i64 a0_0,.int .i64 a0_1,.slice A0_2 l0_2.length c0_2] 51 (0,0)) qq145 hb);replace HB:=am (below_step qq89 hb);(try clear hb);(try clear hb2);(try clear hk);(try clear hi))))
  go_ret
  exact ⟨_,qq170,qq195,qq89⟩
 ·rw [if_neg c5] at H;have c5b0 : decide (t336 < 0) = false:=decide_eq_false c5;clear c5;replace H:=bS.mp H;obtain ⟨t337,A110,H⟩:=H;replace H : (if y333.length < 17592186044416 then (spec_WayTo.l0 k a1 a2 (y333 ++ [a1]) t337 a0_0 a0_1 l0_2) else (none)) = some r:=H;have A11:=am A110;clear A110
  by_cases c12 : y333.length < 17592186044416
  ·rw [if_pos c12] at H;have LMc12:=am c12;clear c12;obtain ⟨y340,hy340⟩ : ∃ y_ : List Int,y_ = (y333 ++ [a1]):=⟨_,rfl⟩
   replace H : (spec_WayTo.l0 k a1 a2 y340 t337 a0_0 a0_1 l0_2) = some r:=by first | (rw [hy340];with_reducible exact H) | (have H2_:=(Option.bind_some _ _).symm.trans H;rw [hy340];with_reducible exact H2_) | (have H2_:=(Option.bind_some _ _).symm.trans H;with_reducible exact H2_) | with_reducible exact H | (rw [hy340];exact H) | exact H
   have Ny340:=am hy340;clear hy340;have H':=am H;clear H
   go_enter Try.func109,Try.ntmps109
   go_wp2_with (first | ((with_reducible refine gate_dst (N:=3) rfl ?_);refine box_event ?hg (N:=3) ?hd (cs:=#[.int .i64 a0_0,.int .i64 a0_1,.slice A0_2 l0_2.length c0_2]) (t:=51) ?hr ?_;(case hd => rfl);(case hg => rfl);(case hr => exact qq219);intro gb332 hg w13 hbox hb;have BK332:=am (hbox);have GW332:=am ((qq85 : w.heap.size ≤ gb332));have GE332:=am ((qq85 : w.heap.size ≤ gb332));replace HB:=am (below_step qq140 hb);clear hb hbox hg) | ((with_reducible refine gate_dst (N:=11) rfl ?_);refine Kd.R_lit (Kd.int .i64) _ 3 ?hg (N:=11) ?hd (xs:=([] : List Int)) (inner:=[]) (ok:=fun _ => True) (okp:=fun _ => True) ?hr ?hp (fun _ hk => hk) trivial (Below.refl _ _) (Nat.le_refl _) (by simp) ?_;(case hd => rfl);(case hg => rfl);(case hr => exact qq219);(case hp => exact qq237);intro v334 w14 ho15 hb hg_ hnew_;clear hg_ hnew_;(first | rw [← Ny333.out] at ho15 | (simp only [Int.reduceToNat] at ho15;rw [← Ny333.out] at ho15));have HO335:=am (Kd.R_lower ho15 (below_size qq89));replace BK332:=am (blk_below (g:=gb332) (o:=.cells #[.int .i64 a0_0,.int .i64 a0_1,.slice A0_2 l0_2.length c0_2] 51 (0,0)) qq145 hb);replace HB:=am (below_step qq89 hb);clear hb ho15;obtain ⟨hcz16_0,hcz16_1,hcz16_2,hfz16_0,hfz16_1,hfz16_2⟩:=bcl3 BK332.out) | (go_at_call 103;(with_reducible refine (spec_Days.calls k a0_0 a0_1 _ _ l0_2 a1 a2 t336 _ ?side1 ?side2 A4.out).mono ?_);(case side1 => exact qq61);(case side2 => exact qq239);rintro e w17 ⟨rfl,hb⟩;replace HO335:=am (Kd.R_below qq195 hb);replace BK332:=am (blk_below (g:=gb332) (o:=.cells #[.int .i64 a0_0,.int .i64 a0_1,.slice A0_2 l0_2.length c0_2] 51 (0,0)) qq145 hb);replace HB:=am (below_step qq89 hb);(try clear hb);(try clear hb2);(try clear hk);(try clear hi);obtain ⟨hcz18_0,hcz18_1,hcz18_2,hfz18_0,hfz18_1,hfz18_2⟩:=bcl3 BK332.out) | (go_at_call 136;(with_reducible refine (spec_l5From.calls k a0_0 a0_1 _ _ l0_2 a2 t337 _ ?side1 ?side2 A11.out).mono ?_);(case side1 => exact qq61);(case side2 => exact qq239);rintro e w19 ⟨v338,rfl,ho0,hb⟩;have HO339:=am (Kd.R_lower (Kd.R_new' ho0 (Kd.R_lt qq195)) (below_size qq89));replace HO335:=am (Kd.R_elder' qq195 (Kd.R_base ho0) hb);replace BK332:=am (blk_below (g:=gb332) (o:=.cells #[.int .i64 a0_0,.int .i64 a0_1,.slice A0_2 l0_2.length c0_2] 51 (0,0)) qq145 hb);replace HB:=am (below_step qq89 hb);(try clear hb);(try clear hb2);(try clear hk);(try clear hi);(try clear ho0)) | ((with_reducible refine gate_builtin (b:=.append) (xs:=#[.tmp 21,.tmp 23]) rfl ?_);at_builtin;refine Kd.R_append (Kd.int .i64) (w0:=w) w.heap.size rfl (.tmp 21) (.tmp 23) 49 3 (.int .i64 0) 8 rfl Try.underlying49 info3 rfl (by decide) (by omega) v334 y333 a1 [.int .i64 a1] (fun k_ => some k_ ≠ (v338 : Value).ownBlock) (fun _ => False) rfl rfl ?aP (fun _ hk => hk.elim) ?aF ?aO ?aB ?aS ?aL ?_;(case aP => exact rfl);(case aB => exact qq78);(case aF => exact qq113);(case aO => exact qq119);(case aS => exact qq55);(case aL => have:=LMc12.out;omega);intro v341 w20 ho hb hg hat;rw [← Ny340.out] at ho;replace BK332:=am (blk_grown (g:=gb332) (o:=.cells #[.int .i64 a0_0,.int .i64 a0_1,.slice A0_2 l0_2.length c0_2] 51 (0,0)) qq145 hg (Kd.R_ne HO335.out BK332.out (by decide)));replace HO339:=am (Kd.R_after (ok:=(fun _ => True)) qq194 hg hat);replace HB:=am (hb);have HO342:=am (ho);clear HO335;clear ho hb hg hat))
   repeat (go_quiet (first | ((with_reducible refine gate_dst (N:=3) rfl ?_);refine box_event ?hg (N:=3) ?hd (cs:=#[.int .i64 a0_0,.int .i64 a0_1,.slice A0_2 l0_2.length c0_2]) (t:=51) ?hr ?_;(case hd => rfl);(case hg => rfl);(case hr => exact qq219);intro gb332 hg w13 hbox hb;have BK332:=am (hbox);have GW332:=am ((qq85 : w.heap.size ≤ gb332));have GE332:=am ((qq85 : w.heap.size ≤ gb332));replace HB:=am (below_step qq140 hb);clear hb hbox hg) | ((with_reducible refine gate_dst (N:=11) rfl ?_);refine Kd.R_lit (Kd.int .i64) _ 3 ?hg (N:=11) ?hd (xs:=([] : List Int)) (inner:=[]) (ok:=fun _ => True) (okp:=fun _ => True) ?hr ?hp (fun _ hk => hk) trivial (Below.refl _ _) (Nat.le_refl _) (by simp) ?_;(case hd => rfl);(case hg => rfl);(case hr => exact qq219);(case hp => exact qq237);intro v334 w14 ho15 hb hg_ hnew_;clear hg_ hnew_;(first | rw [← Ny333.out] at ho15 | (simp only [Int.reduceToNat] at ho15;rw [← Ny333.out] at ho15));have HO335:=am (Kd.R_lower ho15 (below_size qq89));replace BK332:=am (blk_below (g:=gb332) (o:=.cells #[.int .i64 a0_0,.int .i64 a0_1,.slice A0_2 l0_2.length c0_2] 51 (0,0)) qq145 hb);replace HB:=am (below_step qq89 hb);clear hb ho15;obtain ⟨hcz16_0,hcz16_1,hcz16_2,hfz16_0,hfz16_1,hfz16_2⟩:=bcl3 BK332.out) | (go_at_call 103;(with_reducible refine (spec_Days.calls k a0_0 a0_1 _ _ l0_2 a1 a2 t336 _ ?side1 ?side2 A4.out).mono ?_);(case side1 => exact qq61);(case side2 => exact qq239);rintro e w17 ⟨rfl,hb⟩;replace HO335:=am (Kd.R_below qq195 hb);replace BK332:=am (blk_below (g:=gb332) (o:=.cells #[.int .i64 a0_0,.int .i64 a0_1,.slice A0_2 l0_2.length c0_2] 51 (0,0)) qq145 hb);replace HB:=am (below_step qq89 hb);(try clear hb);(try clear hb2);(try clear hk);(try clear hi);obtain ⟨hcz18_0,hcz18_1,hcz18_2,hfz18_0,hfz18_1,hfz18_2⟩:=bcl3 BK332.out) | (go_at_call 136;(with_reducible refine (spec_l5From.calls k a0_0 a0_1 _ _ l0_2 a2 t337 _ ?side1 ?side2 A11.out).mono ?_);(case side1 => exact qq61);(case side2 => exact qq239);rintro e w19 ⟨v338,rfl,ho0,hb⟩;have HO339:=am (Kd.R_lower (Kd.R_new' ho0 (Kd.R_lt qq195)) (below_size qq89));replace HO335:=am (Kd.R_elder' qq195 (Kd.R_base ho0) hb);replace BK332:=am (blk_below (g:=gb332) (o:=.cells #[.int .i64 a0_0,.int .i64 a0_1,.slice A0_2 l0_2.length c0_2] 51 (0,0)) qq145 hb);replace HB:=am (below_step qq89 hb);(try clear hb);(try clear hb2);(try clear hk);(try clear hi);(try clear ho0)) | ((with_reducible refine gate_builtin (b:=.append) (xs:=#[.tmp 21,.tmp 23]) rfl ?_);at_builtin;refine Kd.R_append (Kd.int .i64) (w0:=w) w.heap.size rfl (.tmp 21) (.tmp 23) 49 3 (.int .i64 0) 8 rfl Try.underlying49 info3 rfl (by decide) (by omega) v334 y333 a1 [.int .i64 a1] (fun k_ => some k_ ≠ (v338 : Value).ownBlock) (fun _ => False) rfl rfl ?aP (fun _ hk => hk.elim) ?aF ?aO ?aB ?aS ?aL ?_;(case aP => exact rfl);(case aB => exact qq78);(case aF => exact qq113);(case aO => exact qq119);(case aS => exact qq55);(case aL => have:=LMc12.out;omega);intro v341 w20 ho hb hg hat;rw [← Ny340.out] at ho;replace BK332:=am (blk_grown (g:=gb332) (o:=.cells #[.int .i64 a0_0,.int .i64 a0_1,.slice A0_2 l0_2.length c0_2] 51 (0,0)) qq145 hg (Kd.R_ne HO335.out BK332.out (by decide)));replace HO339:=am (Kd.R_after (ok:=(fun _ => True)) qq194 hg hat);replace HB:=am (hb);have HO342:=am (ho);clear HO335;clear ho hb hg hat));try go_wp2_with (first | ((with_reducible refine gate_dst (N:=3) rfl ?_);refine box_event ?hg (N:=3) ?hd (cs:=#[.int .i64 a0_0,.int .i64 a0_1,.slice A0_2 l0_2.length c0_2]) (t:=51) ?hr ?_;(case hd => rfl);(case hg => rfl);(case hr => exact qq219);intro gb332 hg w13 hbox hb;have BK332:=am (hbox);have GW332:=am ((qq85 : w.heap.size ≤ gb332));have GE332:=am ((qq85 : w.heap.size ≤ gb332));replace HB:=am (below_step qq140 hb);clear hb hbox hg) | ((with_reducible refine gate_dst (N:=11) rfl ?_);refine Kd.R_lit (Kd.int .i64) _ 3 ?hg (N:=11) ?hd (xs:=([] : List Int)) (inner:=[]) (ok:=fun _ => True) (okp:=fun _ => True) ?hr ?hp (fun _ hk => hk) trivial (Below.refl _ _) (Nat.le_refl _) (by simp) ?_;(case hd => rfl);(case hg => rfl);(case hr => exact qq219);(case hp => exact qq237);intro v334 w14 ho15 hb hg_ hnew_;clear hg_ hnew_;(first | rw [← Ny333.out] at ho15 | (simp only [Int.reduceToNat] at ho15;rw [← Ny333.out] at ho15));have HO335:=am (Kd.R_lower ho15 (below_size qq89));replace BK332:=am (blk_below (g:=gb332) (o:=.cells #[.int .i64 a0_0,.int .i64 a0_1,.slice A0_2 l0_2.length c0_2] 51 (0,0)) qq145 hb);replace HB:=am (below_step qq89 hb);clear hb ho15;obtain ⟨hcz16_0,hcz16_1,hcz16_2,hfz16_0,hfz16_1,hfz16_2⟩:=bcl3 BK332.out) | (go_at_call 103;(with_reducible refine (spec_Days.calls k a0_0 a0_1 _ _ l0_2 a1 a2 t336 _ ?side1 ?side2 A4.out).mono ?_);(case side1 => exact qq61);(case side2 => exact qq239);rintro e w17 ⟨rfl,hb⟩;replace HO335:=am (Kd.R_below qq195 hb);replace BK332:=am (blk_below (g:=gb332) (o:=.cells #[.int .i64 a0_0,.int .i64 a0_1,.slice A0_2 l0_2.length c0_2] 51 (0,0)) qq145 hb);replace HB:=am (below_step qq89 hb);(try clear hb);(try clear hb2);(try clear hk);(try clear hi);obtain ⟨hcz18_0,hcz18_1,hcz18_2,hfz18_0,hfz18_1,hfz18_2⟩:=bcl3 BK332.out) | (go_at_call 136;(with_reducible refine (spec_l5From.calls k a0_0 a0_1 _ _ l0_2 a2 t337 _ ?side1 ?side2 A11.out).mono ?_);(case side1 => exact qq61);(case side2 => exact qq239);rintro e w19 ⟨v338,rfl,ho0,hb⟩;have HO339:=am (Kd.R_lower (Kd.R_new' ho0 (Kd.R_lt qq195)) (below_size qq89));replace HO335:=am (Kd.R_elder' qq195 (Kd.R_base ho0) hb);replace BK332:=am (blk_below (g:=gb332) (o:=.cells #[.int .i64 a0_0,.int .i64 a0_1,.slice A0_2 l0_2.length c0_2] 51 (0,0)) qq145 hb);replace HB:=am (below_step qq89 hb);(try clear hb);(try clear hb2);(try clear hk);(try clear hi);(try clear ho0)) | ((with_reducible refine gate_builtin (b:=.append) (xs:=#[.tmp 21,.tmp 23]) rfl ?_);at_builtin;refine Kd.R_append (Kd.int .i64) (w0:=w) w.heap.size rfl (.tmp 21) (.tmp 23) 49 3 (.int .i64 0) 8 rfl Try.underlying49 info3 rfl (by decide) (by omega) v334 y333 a1 [.int .i64 a1] (fun k_ => some k_ ≠ (v338 : Value).ownBlock) (fun _ => False) rfl rfl ?aP (fun _ hk => hk.elim) ?aF ?aO ?aB ?aS ?aL ?_;(case aP => exact rfl);(case aB => exact qq78);(case aF => exact qq113);(case aO => exact qq119);(case aS => exact qq55);(case aL => have:=LMc12.out;omega);intro v341 w20 ho hb hg hat;rw [← Ny340.out] at ho;replace BK332:=am (blk_grown (g:=gb332) (o:=.cells #[.int .i64 a0_0,.int .i64 a0_1,.slice A0_2 l0_2.length c0_2] 51 (0,0)) qq145 hg (Kd.R_ne HO335.out BK332.out (by decide)));replace HO339:=am (Kd.R_after (ok:=(fun _ => True)) qq194 hg hat);replace HB:=am (hb);have HO342:=am (ho);clear HO335;clear ho hb hg hat)))
   go_loopg [1,7] k (fun kq v1 v7 w' => ∃ (x1_1 : Int) (x7_1 : List Int),v1 = .int .i64 x1_1 ∧ Aside0 (spec_WayTo.l0 kq x1_1 a2 x7_1 t337 a0_0 a0_1 l0_2 = some r) ∧ Aside0 (kq ≤ k) ∧ Aside0 (Kd.R (Kd.int .i64) 3 w' w.heap.size (fun k_ => some k_ ≠ (v338 : Value).ownBlock) v7 x7_1) ∧ Aside0 (Kd.R (Kd.int .i64) 3 w' w.heap.size (fun k_ => some k_ ≠ (v7 : Value).ownBlock) v338 t337) ∧ Aside0 (w'.heap[gb332]? = some (.cells #[.int .i64 a0_0,.int .i64 a0_1,(.slice A0_2 l0_2.length c0_2)] 51 (0,0))) ∧ Aside0 (Below w.heap.size w w'))
   case atStart => exact ⟨(a1),(y340),qq217,H',⟨Nat.le_refl _⟩,⟨by (with_reducible repeat (first | apply kA | apply kN | apply kD));exact HO342.out⟩,⟨by (with_reducible repeat (first | apply kA | apply kN | apply kD));exact Kd.R_mono HO339.out (fun _ hk => hk.2)⟩,⟨qq145⟩,⟨qq89⟩⟩
   case round =>
    clear H'
    try clear c1
    try clear p2
    try clear c5
    try clear c5b0
    try clear c10
    try clear c12
    try clear hcz16_0
    try clear hcz16_1
    try clear hcz16_2
    try clear hcz18_0
    try clear hcz18_1
    try clear hcz18_2
    try clear hcz9_0
    try clear hcz9_1
    try clear hcz9_2
    try clear hfz16_0
    try clear hfz16_1
    try clear hfz16_2
    try clear hfz18_0
    try clear hfz18_1
    try clear hfz18_2
    try clear hfz9_0
    try clear hfz9_1
    try clear hfz9_2
    obtain ⟨x1_1,x7_1,rfl,HA,HK1,HO_7,HO_8,BK332,HB⟩:=hrel
    cases gk with
    | zero => exact absurd HA.out (by simp [spec_WayTo.l0])
    | succ k1 =>
     have H:=HA.out;clear HA;simp only [spec_WayTo.l0] at H
     by_cases c21 : x1_1 = a2
     ·rw [if_pos c21] at H;have c21b0 : (x1_1 == a2) = true:=beq_iff_eq.mpr c21;have c21b1 : (x1_1 != a2) = false:=bne_eq_false_iff_eq.mpr c21;clear c21;obtain rfl:=Option.some.inj H;go_wp2
      repeat (go_quiet (fail);try go_wp2)
      go_ret
      exact ⟨_,qq170,by (with_reducible repeat (first | apply kA | apply kN | apply kD));exact Kd.R_mono HO_7.out (fun _ hk => trivial),qq89⟩
     ·rw [if_neg c21] at H;have c21b0 : (x1_1 == a2) = false:=beq_eq_false_iff_ne.mpr c21;have c21b1 : (x1_1 != a2) = true:=bne_iff_ne.mpr c21;replace H:=bS.mp H;obtain ⟨t343,A220,H⟩:=H;replace H : (spec_WayTo.l1 k1 x1_1 a2 x7_1 t337 t343 (wrap64 ((t343.length : Int) - 1)) a0_0 a0_1 l0_2) = some r:=H;have A22:=am A220;clear A220;have H':=am H;clear H;obtain ⟨hcz23_0,hcz23_1,hcz23_2,hfz23_0,hfz23_1,hfz23_2⟩:=bcl3 BK332.out;go_wp2_with (first | (go_at_call 138;(with_reducible refine (spec_l4Near.calls k1 a0_0 a0_1 _ _ l0_2 x1_1 t343 _ ?side1 ?side2 A22.out).mono ?_);(case side1 => exact qq61);(case side2 => exact qq239);rintro e w24 ⟨v344,rfl,ho0,hb⟩;have HO345:=am (Kd.R_lower (Kd.R_new' (Kd.R_new' ho0 (Kd.R_lt qq207)) (Kd.R_lt qq206)) (below_size qq89));replace HO_7:=am (Kd.R_elder' qq207 (Kd.R_base ho0) hb);replace HO_8:=am (Kd.R_elder' qq206 (Kd.R_base ho0) hb);replace BK332:=am (blk_below (g:=gb332) (o:=.cells #[.int .i64 a0_0,.int .i64 a0_1,.slice A0_2 l0_2.length c0_2] 51 (0,0)) qq145 hb);replace HB:=am (below_step qq89 hb);(try clear hb);(try clear hb2);(try clear hk);(try clear hi);(try clear ho0);obtain ⟨Ao25,co25,eo25⟩:=Kd.R_slice HO345.out;subst eo25))
      repeat (go_quiet (first | (go_at_call 138;(with_reducible refine (spec_l4Near.calls k1 a0_0 a0_1 _ _ l0_2 x1_1 t343 _ ?side1 ?side2 A22.out).mono ?_);(case side1 => exact qq61);(case side2 => exact qq239);rintro e w24 ⟨v344,rfl,ho0,hb⟩;have HO345:=am (Kd.R_lower (Kd.R_new' (Kd.R_new' ho0 (Kd.R_lt qq207)) (Kd.R_lt qq206)) (below_size qq89));replace HO_7:=am (Kd.R_elder' qq207 (Kd.R_base ho0) hb);replace HO_8:=am (Kd.R_elder' qq206 (Kd.R_base ho0) hb);replace BK332:=am (blk_below (g:=gb332) (o:=.cells #[.int .i64 a0_0,.int .i64 a0_1,.slice A0_2 l0_2.length c0_2] 51 (0,0)) qq145 hb);replace HB:=am (below_step qq89 hb);(try clear hb);(try clear hb2);(try clear hk);(try clear hi);(try clear ho0);obtain ⟨Ao25,co25,eo25⟩:=Kd.R_slice HO345.out;subst eo25));try go_wp2_with (first | (go_at_call 138;(with_reducible refine (spec_l4Near.calls k1 a0_0 a0_1 _ _ l0_2 x1_1 t343 _ ?side1 ?side2 A22.out).mono ?_);(case side1 => exact qq61);(case side2 => exact qq239);rintro e w24 ⟨v344,rfl,ho0,hb⟩;have HO345:=am (Kd.R_lower (Kd.R_new' (Kd.R_new' ho0 (Kd.R_lt qq207)) (Kd.R_lt qq206)) (below_size qq89));replace HO_7:=am (Kd.R_elder' qq207 (Kd.R_base ho0) hb);replace HO_8:=am (Kd.R_elder' qq206 (Kd.R_base ho0) hb);replace BK332:=am (blk_below (g:=gb332) (o:=.cells #[.int .i64 a0_0,.int .i64 a0_1,.slice A0_2 l0_2.length c0_2] 51 (0,0)) qq145 hb);replace HB:=am (below_step qq89 hb);(try clear hb);(try clear hb2);(try clear hk);(try clear hi);(try clear ho0);obtain ⟨Ao25,co25,eo25⟩:=Kd.R_slice HO345.out;subst eo25)))
      go_loopg [1,10] k1 (fun kq v1 v10 w' => ∃ (x1_2 : Int) (x10_2 : Int),v1 = .int .i64 x1_2 ∧ v10 = .int .i64 x10_2 ∧ Aside0 (spec_WayTo.l1 kq x1_2 a2 x7_1 t337 t343 x10_2 a0_0 a0_1 l0_2 = some r) ∧ Aside0 (kq ≤ k1) ∧ Aside0 (Kd.R (Kd.int .i64) 3 w' w.heap.size (fun k_ => some k_ ≠ (v338 : Value).ownBlock ∧ some k_ ≠ ((.slice Ao25 t343.length co25) : Value).ownBlock) u7 x7_1) ∧ Aside0 (Kd.R (Kd.int .i64) 3 w' w.heap.size (fun k_ => some k_ ≠ (u7 : Value).ownBlock ∧ some k_ ≠ ((.slice Ao25 t343.length co25) : Value).ownBlock) v338 t337) ∧ Aside0 (Kd.R (Kd.int .i64) 3 w' w.heap.size (fun k_ => some k_ ≠ (u7 : Value).ownBlock ∧ some k_ ≠ (v338 : Value).ownBlock) (.slice Ao25 t343.length co25) t343) ∧ Aside0 (w'.heap[gb332]? = some (.cells #[.int .i64 a0_0,.int .i64 a0_1,(.slice A0_2 l0_2.length c0_2)] 51 (0,0))) ∧ Aside0 (Below w.heap.size w w'))
      case atStart => exact ⟨(x1_1),(wrap64 ((t343.length : Int) - 1)),qq217,qq217,H',⟨Nat.le_refl _⟩,⟨qq207⟩,⟨qq206⟩,⟨by (with_reducible repeat (first | apply kA | apply kN | apply kD));exact Kd.R_mono HO345.out (fun _ hk => ⟨hk.1.2,hk.2⟩)⟩,⟨qq145⟩,⟨qq89⟩⟩
      case round =>
       clear H'
       try clear c1
       try clear c2
       try clear p2
       try clear c5
       try clear c5b0
       try clear p6
       try clear c10
       try clear c12
       try clear c21
       try clear c21b0
       try clear c21b1
       try clear hcz16_0
       try clear hcz16_1
       try clear hcz16_2
       try clear hcz18_0
       try clear hcz18_1
       try clear hcz18_2
       try clear hcz23_0
       try clear hcz23_1
       try clear hcz23_2
       try clear hcz9_0
       try clear hcz9_1
       try clear hcz9_2
       try clear hfz16_0
       try clear hfz16_1
       try clear hfz16_2
       try clear hfz18_0
       try clear hfz18_1
       try clear hfz18_2
       try clear hfz23_0
       try clear hfz23_1
       try clear hfz23_2
       try clear hfz9_0
       try clear hfz9_1
       try clear hfz9_2
       try clear p2
       obtain ⟨x1_2,x10_2,rfl,rfl,HA,HK2,HO_7,HO_8,HO_9,BK332,HB⟩:=hrel
       cases gk with
       | zero => exact absurd HA.out (by simp [spec_WayTo.l1])
       | succ k2 =>
        have H:=HA.out;clear HA;simp only [spec_WayTo.l1] at H
        by_cases c26 : x10_2 ≥ 0
        ·rw [if_pos c26] at H;have c26b0 : decide (0 ≤ x10_2) = true:=decide_eq_true c26;clear c26
         by_cases c27 : 0 ≤ x10_2
         ·rw [if_pos c27] at H;have c27b0 : decide (0 ≤ x10_2) = true:=decide_eq_true c27;clear c27
          by_cases c28 : x10_2 < (t343.length : Int)
          ·rw [if_pos c28] at H;have c28b0 : decide (x10_2 < (t343.length : Int)) = true:=decide_eq_true c28;clear c28
           by_cases c29 : 0 ≤ (rd t343 x10_2)
           ·rw [if_pos c29] at H;have c29b0 : decide (0 ≤ (rd t343 x10_2)) = true:=decide_eq_true c29;clear c29
            by_cases c30 : (rd t343 x10_2) < (t337.length : Int)
            ·rw [if_pos c30] at H;have c30b0 : decide ((rd t343 x10_2) < (t337.length : Int)) = true:=decide_eq_true c30;clear c30;obtain ⟨ji31,hji31⟩ : ∃ j_ : Int,(wrap64 ((x7_1.length : Int) - 1)) = j_:=⟨_,rfl⟩
             replace H : (if 0 ≤ (ji31) then (if (ji31) < (x7_1.length : Int) then (if 0 ≤ (rd x7_1 (ji31)) then (if (rd x7_1 (ji31)) < (t337.length : Int) then (if (rd t337 (rd t343 x10_2)) = (wrap64 ((rd t337 (rd x7_1 (ji31))) - 1)) then (spec_WayTo.l1 k2 (rd t343 x10_2) a2 x7_1 t337 t343 (wrap64 (x10_2 - 1)) a0_0 a0_1 l0_2) else (spec_WayTo.l1 k2 x1_2 a2 x7_1 t337 t343 (wrap64 (x10_2 - 1)) a0_0 a0_1 l0_2)) else (none)) else (none)) else (none)) else (none)) = some r:=by first | (rw [hji31] at H;exact H) | (simp only [hji31] at H ⊢;exact H)
             have hji31w : (IntKind.i64.wrap ((x7_1.length : Int) - 1)) = ji31:=(i64_w _).trans hji31
             by_cases c32 : 0 ≤ (ji31)
             ·rw [if_pos c32] at H;have c32b0 : decide (0 ≤ (ji31)) = true:=decide_eq_true c32;clear c32
              by_cases c33 : (ji31) < (x7_1.length : Int)
              ·rw [if_pos c33] at H;have c33b0 : decide ((ji31) < (x7_1.length : Int)) = true:=decide_eq_true c33;clear c33
               by_cases c34 : 0 ≤ (rd x7_1 (ji31))
               ·rw [if_pos c34] at H;have c34b0 : decide (0 ≤ (rd x7_1 (ji31))) = true:=decide_eq_true c34;clear c34
                by_cases c35 : (rd x7_1 (ji31)) < (t337.length : Int)
                ·rw [if_pos c35] at H;have c35b0 : decide ((rd x7_1 (ji31)) < (t337.length : Int)) = true:=decide_eq_true c35;clear c35
                 by_cases c36 : (rd t337 (rd t343 x10_2)) = (wrap64 ((rd t337 (rd x7_1 (ji31))) - 1))
                 ·rw [if_pos c36] at H;have c36b0 : ((rd t337 (rd t343 x10_2)) == (wrap64 ((rd t337 (rd x7_1 (ji31))) - 1))) = true:=beq_iff_eq.mpr c36;have c36b1 : ((rd t337 (rd t343 x10_2)) != (wrap64 ((rd t337 (rd x7_1 (ji31))) - 1))) = false:=bne_eq_false_iff_eq.mpr c36;clear c36;have H':=am H;clear H;have p346 : 0 ≤ (x10_2 : Int):=odt qq215;have q346 : x10_2 < (t343.length : Int):=odt qq215;obtain ⟨ad346,e346,hx346_0⟩:=Kd.at_int (Kd.R_reads' HO_9.out).2.2 x10_2 p346 q346
                  cases e346
                  replace p346:=eq_true p346;replace q346:=eq_true q346;obtain ⟨Ao37,co37,eo37⟩:=Kd.R_slice HO_8.out;subst eo37;have p347 : 0 ≤ ((rd t343 x10_2) : Int):=odt qq215;have q347 : (rd t343 x10_2) < (t337.length : Int):=odt qq215;obtain ⟨ad347,e347,hx347_0⟩:=Kd.at_int (Kd.R_reads' HO_8.out).2.2 (rd t343 x10_2) p347 q347
                  cases e347
                  replace p347:=eq_true p347;replace q347:=eq_true q347;obtain ⟨Ao38,co38,eo38⟩:=Kd.R_slice HO_7.out;subst eo38;have p348 : 0 ≤ ((ji31) : Int):=odt qq215;have q348 : (ji31) < (x7_1.length : Int):=odt qq215;obtain ⟨ad348,e348,hx348_0⟩:=Kd.at_int (Kd.R_reads' HO_7.out).2.2 (ji31) p348 q348
                  cases e348
                  replace p348:=eq_true p348;replace q348:=eq_true q348;have p349 : 0 ≤ ((rd x7_1 (ji31)) : Int):=odt qq215;have q349 : (rd x7_1 (ji31)) < (t337.length : Int):=odt qq215;obtain ⟨ad349,e349,hx349_0⟩:=Kd.at_int (Kd.R_reads' HO_8.out).2.2 (rd x7_1 (ji31)) p349 q349;obtain rfl : ad347 = ad349:=(by injection e349)
                  replace p349:=eq_true p349;replace q349:=eq_true q349;have p350 : 0 ≤ (x10_2 : Int):=odt qq215;have q350 : x10_2 < (t343.length : Int):=odt qq215;obtain ⟨ad350,e350,hx350_0⟩:=Kd.at_int (Kd.R_reads' HO_9.out).2.2 x10_2 p350 q350;obtain rfl : ad346 = ad350:=(by injection e350)
                  replace p350:=eq_true p350;replace q350:=eq_true q350;go_wp2
                  repeat (go_quiet (fail);try go_wp2)
                  go_roundg k2
                  case measure => have:=HK1.out;have:=HK2.out;omega
                  case rel => exact ⟨(rd t343 x10_2),(wrap64 (x10_2 - 1)),qq217,qq217,H',⟨qq221⟩,⟨qq207⟩,⟨qq206⟩,⟨qq205⟩,⟨qq145⟩,⟨qq89⟩⟩
                 ·rw [if_neg c36] at H;have c36b0 : ((rd t337 (rd t343 x10_2)) == (wrap64 ((rd t337 (rd x7_1 (ji31))) - 1))) = false:=beq_eq_false_iff_ne.mpr c36;have c36b1 : ((rd t337 (rd t343 x10_2)) != (wrap64 ((rd t337 (rd x7_1 (ji31))) - 1))) = true:=bne_iff_ne.mpr c36;have H':=am H;clear H;have p346 : 0 ≤ (x10_2 : Int):=odt qq215;have q346 : x10_2 < (t343.length : Int):=odt qq215;obtain ⟨ad346,e346,hx346_0⟩:=Kd.at_int (Kd.R_reads' HO_9.out).2.2 x10_2 p346 q346
                  cases e346
                  replace p346:=eq_true p346;replace q346:=eq_true q346;obtain ⟨Ao39,co39,eo39⟩:=Kd.R_slice HO_8.out;subst eo39;have p347 : 0 ≤ ((rd t343 x10_2) : Int):=odt qq215;have q347 : (rd t343 x10_2) < (t337.length : Int):=odt qq215;obtain ⟨ad347,e347,hx347_0⟩:=Kd.at_int (Kd.R_reads' HO_8.out).2.2 (rd t343 x10_2) p347 q347
                  cases e347
                  replace p347:=eq_true p347;replace q347:=eq_true q347;obtain ⟨Ao40,co40,eo40⟩:=Kd.R_slice HO_7.out;subst eo40;have p348 : 0 ≤ ((ji31) : Int):=odt qq215;have q348 : (ji31) < (x7_1.length : Int):=odt qq215;obtain ⟨ad348,e348,hx348_0⟩:=Kd.at_int (Kd.R_reads' HO_7.out).2.2 (ji31) p348 q348
                  cases e348
                  replace p348:=eq_true p348;replace q348:=eq_true q348;have p349 : 0 ≤ ((rd x7_1 (ji31)) : Int):=odt qq215;have q349 : (rd x7_1 (ji31)) < (t337.length : Int):=odt qq215;obtain ⟨ad349,e349,hx349_0⟩:=Kd.at_int (Kd.R_reads' HO_8.out).2.2 (rd x7_1 (ji31)) p349 q349;obtain rfl : ad347 = ad349:=(by injection e349)
                  replace p349:=eq_true p349;replace q349:=eq_true q349;go_wp2
                  repeat (go_quiet (fail);try go_wp2)
                  go_roundg k2
                  case measure => have:=HK1.out;have:=HK2.out;omega
                  case rel => exact ⟨(x1_2),(wrap64 (x10_2 - 1)),qq217,qq217,H',⟨qq221⟩,⟨qq207⟩,⟨qq206⟩,⟨qq205⟩,⟨qq145⟩,⟨qq89⟩⟩
                ·rw [if_neg c35] at H;exact absurd H (by simp)
               ·rw [if_neg c34] at H;exact absurd H (by simp)
              ·rw [if_neg c33] at H;exact absurd H (by simp)
             ·rw [if_neg c32] at H;exact absurd H (by simp)
            ·rw [if_neg c30] at H;exact absurd H (by simp)
           ·rw [if_neg c29] at H;exact absurd H (by simp)
          ·rw [if_neg c28] at H;exact absurd H (by simp)
         ·rw [if_neg c27] at H;exact absurd H (by simp)
        ·rw [if_neg c26] at H;have c26b0 : decide (0 ≤ x10_2) = false:=decide_eq_false c26;clear c26
         by_cases c41 : x7_1.length < 17592186044416
         ·rw [if_pos c41] at H;have LMc41:=am c41;clear c41;obtain ⟨y351,hy351⟩ : ∃ y_ : List Int,y_ = (x7_1 ++ [x1_2]):=⟨_,rfl⟩
          replace H : (spec_WayTo.l0 k2 x1_2 a2 y351 t337 a0_0 a0_1 l0_2) = some r:=by first | (rw [hy351];with_reducible exact H) | (have H2_:=(Option.bind_some _ _).symm.trans H;rw [hy351];with_reducible exact H2_) | (have H2_:=(Option.bind_some _ _).symm.trans H;with_reducible exact H2_) | with_reducible exact H | (rw [hy351];exact H) | exact H
          have Ny351:=am hy351;clear hy351;have H':=am H;clear H;go_wp2_with (first | ((with_reducible refine gate_builtin (b:=.append) (xs:=#[.tmp 60,.tmp 62]) rfl ?_);at_builtin;refine Kd.R_append (Kd.int .i64) (w0:=w) w.heap.size rfl (.tmp 60) (.tmp 62) 49 3 (.int .i64 0) 8 rfl Try.underlying49 info3 rfl (by decide) (by omega) u7 x7_1 x1_2 [.int .i64 x1_2] (fun k_ => some k_ ≠ (v338 : Value).ownBlock ∧ some k_ ≠ (.slice Ao25 t343.length co25 : Value).ownBlock) (fun _ => False) rfl rfl ?aP (fun _ hk => hk.elim) ?aF ?aO ?aB ?aS ?aL ?_;(case aP => exact rfl);(case aB => exact qq78);(case aF => exact qq12);(case aO => exact qq175);(case aS => exact qq55);(case aL => have:=LMc41.out;omega);intro v352 w42 ho hb hg hat;rw [← Ny351.out] at ho;replace HO_8:=am (Kd.R_after (ok:=(fun k_ => some k_ ≠ (.slice Ao25 t343.length co25 : Value).ownBlock)) qq125 hg hat);replace HO_9:=am (Kd.R_after (ok:=(fun k_ => some k_ ≠ (v338 : Value).ownBlock)) qq124 hg hat);replace BK332:=am (blk_grown (g:=gb332) (o:=.cells #[.int .i64 a0_0,.int .i64 a0_1,.slice A0_2 l0_2.length c0_2] 51 (0,0)) qq145 hg (Kd.R_ne HO_7.out BK332.out (by decide)));replace HB:=am (hb);have HO353:=am (ho);clear HO_7;clear ho hb hg hat))
          repeat (go_quiet (first | ((with_reducible refine gate_builtin (b:=.append) (xs:=#[.tmp 60,.tmp 62]) rfl ?_);at_builtin;refine Kd.R_append (Kd.int .i64) (w0:=w) w.heap.size rfl (.tmp 60) (.tmp 62) 49 3 (.int .i64 0) 8 rfl Try.underlying49 info3 rfl (by decide) (by omega) u7 x7_1 x1_2 [.int .i64 x1_2] (fun k_ => some k_ ≠ (v338 : Value).ownBlock ∧ some k_ ≠ (.slice Ao25 t343.length co25 : Value).ownBlock) (fun _ => False) rfl rfl ?aP (fun _ hk => hk.elim) ?aF ?aO ?aB ?aS ?aL ?_;(case aP => exact rfl);(case aB => exact qq78);(case aF => exact qq12);(case aO => exact qq175);(case aS => exact qq55);(case aL => have:=LMc41.out;omega);intro v352 w42 ho hb hg hat;rw [← Ny351.out] at ho;replace HO_8:=am (Kd.R_after (ok:=(fun k_ => some k_ ≠ (.slice Ao25 t343.length co25 : Value).ownBlock)) qq125 hg hat);replace HO_9:=am (Kd.R_after (ok:=(fun k_ => some k_ ≠ (v338 : Value).ownBlock)) qq124 hg hat);replace BK332:=am (blk_grown (g:=gb332) (o:=.cells #[.int .i64 a0_0,.int .i64 a0_1,.slice A0_2 l0_2.length c0_2] 51 (0,0)) qq145 hg (Kd.R_ne HO_7.out BK332.out (by decide)));replace HB:=am (hb);have HO353:=am (ho);clear HO_7;clear ho hb hg hat));try go_wp2_with (first | ((with_reducible refine gate_builtin (b:=.append) (xs:=#[.tmp 60,.tmp 62]) rfl ?_);at_builtin;refine Kd.R_append (Kd.int .i64) (w0:=w) w.heap.size rfl (.tmp 60) (.tmp 62) 49 3 (.int .i64 0) 8 rfl Try.underlying49 info3 rfl (by decide) (by omega) u7 x7_1 x1_2 [.int .i64 x1_2] (fun k_ => some k_ ≠ (v338 : Value).ownBlock ∧ some k_ ≠ (.slice Ao25 t343.length co25 : Value).ownBlock) (fun _ => False) rfl rfl ?aP (fun _ hk => hk.elim) ?aF ?aO ?aB ?aS ?aL ?_;(case aP => exact rfl);(case aB => exact qq78);(case aF => exact qq12);(case aO => exact qq175);(case aS => exact qq55);(case aL => have:=LMc41.out;omega);intro v352 w42 ho hb hg hat;rw [← Ny351.out] at ho;replace HO_8:=am (Kd.R_after (ok:=(fun k_ => some k_ ≠ (.slice Ao25 t343.length co25 : Value).ownBlock)) qq125 hg hat);replace HO_9:=am (Kd.R_after (ok:=(fun k_ => some k_ ≠ (v338 : Value).ownBlock)) qq124 hg hat);replace BK332:=am (blk_grown (g:=gb332) (o:=.cells #[.int .i64 a0_0,.int .i64 a0_1,.slice A0_2 l0_2.length c0_2] 51 (0,0)) qq145 hg (Kd.R_ne HO_7.out BK332.out (by decide)));replace HB:=am (hb);have HO353:=am (ho);clear HO_7;clear ho hb hg hat)))
          go_roundg k2
          case measure => have:=HK1.out;have:=HK2.out;omega
          case rel => exact ⟨(x1_2),(y351),qq217,H',⟨qq221⟩,⟨by (with_reducible repeat (first | apply kA | apply kN | apply kD));exact Kd.R_mono HO353.out (fun _ hk => hk.1)⟩,⟨by (with_reducible repeat (first | apply kA | apply kN | apply kD));exact Kd.R_mono HO_8.out (fun _ hk => hk.2)⟩,⟨qq145⟩,⟨qq89⟩⟩
         ·rw [if_neg c41] at H;exact absurd H (by simp)
  ·rw [if_neg c12] at H;exact absurd H (by simp)

end Go.Proofs.Ytcbkknpmeknppaa.PFnExactPlanCells
