/- Contracts of functions that the law FnExactPlanFood reaches, for its row: lines that the kit's printer wrote for this claim, set shorter by a program of this session (own.py), and what fell in Lean proved anew. Lean checks them. -/
import Derived.Test.YtcbkknpmeknppaaSFnExactPlanFoodx0
import Derived.Test.YtcbkknpmeknppaaSFnExactPlanFoodx11
import Derived.Test.YtcbkknpmeknppaaSFnExactPlanFoodx12
namespace Go.Proofs.Ytcbkknpmeknppaa.PFnExactPlanFood
open Go.RowKit Go.Proofs.YtcbkknpmeknppaaW.PrintWords Go.Proofs.YtcbkknpmeknppaaW.PrintLast Go.Proofs.YtcbkknpmeknppaaW.PrintMore
attribute [local go_sem] max2_int min2_int max_two min_two max_three min_three max_four min_four   -- for this text's walks alone
set_option linter.unusedVariables false
set_option linter.unusedSimpArgs false

/-! ### spec_WayTo: function 109 -/
mutual
def spec_WayTo.l0 : Nat → Int → Int → List Int → List Int → Int → Int → List Int → Option (List Int)
 | 0,_,_,_,_,_,_,_ => none
 | k + 1,x1,x2,x7,x8,x402000,x402001,x402002 => if x1 = x2 then (some x7) else ((spec_l4Near.f k x402000 x402001 x402002 x1).bind fun t412 => (spec_WayTo.l1 k x1 x2 x7 x8 t412 (wrap64 ((t412.length : Int) - 1)) x402000 x402001 x402002))
def spec_WayTo.l1 : Nat → Int → Int → List Int → List Int → List Int → Int → Int → Int → List Int → Option (List Int)
 | 0,_,_,_,_,_,_,_,_,_ => none
 | k + 1,x1,x2,x7,x8,x9,x10,x402000,x402001,x402002 => if x10 ≥ 0 then (if 0 ≤ x10 then (if x10 < (x9.length : Int) then (if 0 ≤ (rd x9 x10) then (if (rd x9 x10) < (x8.length : Int) then (if 0 ≤ (wrap64 ((x7.length : Int) - 1)) then (if (wrap64 ((x7.length : Int) - 1)) < (x7.length : Int) then (if 0 ≤ (rd x7 (wrap64 ((x7.length : Int) - 1))) then (if (rd x7 (wrap64 ((x7.length : Int) - 1))) < (x8.length : Int) then (if (rd x8 (rd x9 x10)) = (wrap64 ((rd x8 (rd x7 (wrap64 ((x7.length : Int) - 1)))) - 1)) then (spec_WayTo.l1 k (rd x9 x10) x2 x7 x8 x9 (wrap64 (x10 - 1)) x402000 x402001 x402002) else (spec_WayTo.l1 k x1 x2 x7 x8 x9 (wrap64 (x10 - 1)) x402000 x402001 x402002)) else (none)) else (none)) else (none)) else (none)) else (none)) else (none)) else (none)) else (none)) else (if x7.length < 17592186044416 then (spec_WayTo.l0 k x1 x2 (x7 ++ [x1]) x8 x402000 x402001 x402002) else (none))
end
def spec_WayTo.f (k : Nat) (a0_0 : Int) (a0_1 : Int) (l0_2 : List Int) (a1 : Int) (a2 : Int) : Option (List Int) := (some (([] : List Int) : List Int)).bind fun y402 => ((spec_Days.f k a0_0 a0_1 l0_2 a1 a2).bind fun t405 => (if t405 < 0 then (some y402) else ((spec_l5From.f k a0_0 a0_1 l0_2 a2).bind fun t406 => (if y402.length < 17592186044416 then (spec_WayTo.l0 k a1 a2 (y402 ++ [a1]) t406 a0_0 a0_1 l0_2) else (none)))))
set_option maxHeartbeats 8000000 in
set_option maxRecDepth 100000 in
theorem spec_WayTo.calls (k : Nat) (a0_0 : Int) (a0_1 : Int) (A0_2 : Option Addr) (c0_2 : Nat) (l0_2 : List Int) (a1 : Int) (a2 : Int) (r : List Int) (w : World) (hr0_2 : Kd.C (Kd.int .i64) w A0_2 l0_2.length l0_2) (hc0_2 : l0_2.length ≤ c0_2) (h : spec_WayTo.f k a0_0 a0_1 l0_2 a1 a2 = some r) :
  Calls Try.prog 109 #[.agg #[.int .i64 a0_0,.int .i64 a0_1,.slice A0_2 l0_2.length c0_2],.int .i64 a1,.int .i64 a2] w fun e w' => ∃ v0_ : Value,e = .returned (v0_) ∧ Kd.R (Kd.int .i64) 3 w' w.heap.size (fun _ => True) v0_ r ∧ Below w.heap.size w w':=by
 have hu51:=Try.underlying51;have HR0_2:=am hr0_2;have HC0_2:=am hc0_2;clear hr0_2 hc0_2;have HB:=am qq465;have H : ((some (([] : List Int) : List Int)).bind fun y402 => ((spec_Days.f k a0_0 a0_1 l0_2 a1 a2).bind fun t405 => (if t405 < 0 then (some y402) else ((spec_l5From.f k a0_0 a0_1 l0_2 a2).bind fun t406 => (if y402.length < 17592186044416 then (spec_WayTo.l0 k a1 a2 (y402 ++ [a1]) t406 a0_0 a0_1 l0_2) else (none)))))) = some r:=h;clear h;obtain ⟨y402,hy402⟩ : ∃ y_ : List Int,y_ = (([] : List Int)):=⟨_,rfl⟩
 replace H : ((spec_Days.f k a0_0 a0_1 l0_2 a1 a2).bind fun t405 => (if t405 < 0 then (some y402) else ((spec_l5From.f k a0_0 a0_1 l0_2 a2).bind fun t406 => (if y402.length < 17592186044416 then (spec_WayTo.l0 k a1 a2 (y402 ++ [a1]) t406 a0_0 a0_1 l0_2) else (none))))) = some r:=by first | (rw [hy402];with_reducible exact H) | (have H2_:=(Option.bind_some _ _).symm.trans H;rw [hy402];with_reducible exact H2_) | (have H2_:=(Option.bind_some _ _).symm.trans H;with_reducible exact H2_) | with_reducible exact H | (rw [hy402];exact H) | exact H
 have Ny402:=am hy402;clear hy402;replace H:=bS.mp H;obtain ⟨t405,A40,H⟩:=H;(try dsimp only at H);have A4:=am A40;clear A40
 by_cases c5 : t405 < 0
 ·rw [if_pos c5] at H;have c5b0 : decide (t405 < 0) = true:=decide_eq_true c5;clear c5;obtain rfl:=Option.some.inj H
  go_enter Try.func109,Try.ntmps109
  go_wp2_with (first | ((with_reducible refine gate_dst (N:=3) rfl ?_);refine box_event ?hg (N:=3) ?hd (cs:=#[.int .i64 a0_0,.int .i64 a0_1,.slice A0_2 l0_2.length c0_2]) (t:=51) ?hr ?_;(case hd => rfl);(case hg => rfl);(case hr => exact qq312);intro gb401 hg w6 hbox hb;have BK401:=am (hbox);have GW401:=am qq449;have GE401:=am qq449;replace HB:=am qq488;clear hb hbox hg) | ((with_reducible refine gate_dst (N:=11) rfl ?_);refine Kd.R_lit (Kd.int .i64) _ 3 ?hg (N:=11) ?hd (xs:=([] : List Int)) (inner:=[]) (ok:=fun _ => True) (okp:=fun _ => True) ?hr ?hp (fun _ hk => hk) trivial (Below.refl _ _) (Nat.le_refl _) (by simp) ?_;(case hd => rfl);(case hg => rfl);(case hr => exact qq312);(case hp => exact qq330);intro v403 w7 ho8 hb hg_ hnew_;clear hg_ hnew_;(first | rw [← Ny402.out] at ho8 | (simp only [Int.reduceToNat] at ho8;rw [← Ny402.out] at ho8));have HO404:=am (Kd.R_lower ho8 (below_size qq157));replace BK401:=am qq384;replace HB:=am qq496;clear hb ho8;obtain ⟨hcz9_0,hcz9_1,hcz9_2,hfz9_0,hfz9_1,hfz9_2⟩:=bcl3 BK401.out) | (go_at_call 103;(with_reducible refine (spec_Days.calls k a0_0 a0_1 _ _ l0_2 a1 a2 t405 _ ?side1 ?side2 A4.out).mono ?_);(case side1 => exact qq117);(case side2 => exact qq334);rintro e w10 ⟨rfl,hb⟩;replace HO404:=am qq497;replace BK401:=am qq384;replace HB:=am qq496;(try clear hb);(try clear hb2);(try clear hk);(try clear hi)))
  repeat (go_quiet (first | ((with_reducible refine gate_dst (N:=3) rfl ?_);refine box_event ?hg (N:=3) ?hd (cs:=#[.int .i64 a0_0,.int .i64 a0_1,.slice A0_2 l0_2.length c0_2]) (t:=51) ?hr ?_;(case hd => rfl);(case hg => rfl);(case hr => exact qq312);intro gb401 hg w6 hbox hb;have BK401:=am (hbox);have GW401:=am qq449;have GE401:=am qq449;replace HB:=am qq488;clear hb hbox hg) | ((with_reducible refine gate_dst (N:=11) rfl ?_);refine Kd.R_lit (Kd.int .i64) _ 3 ?hg (N:=11) ?hd (xs:=([] : List Int)) (inner:=[]) (ok:=fun _ => True) (okp:=fun _ => True) ?hr ?hp (fun _ hk => hk) trivial (Below.refl _ _) (Nat.le_refl _) (by simp) ?_;(case hd => rfl);(case hg => rfl);(case hr => exact qq312);(case hp => exact qq330);intro v403 w7 ho8 hb hg_ hnew_;clear hg_ hnew_;(first | rw [← Ny402.out] at ho8 | (simp only [Int.reduceToNat] at ho8;rw [← Ny402.out] at ho8));have HO404:=am (Kd.R_lower ho8 (below_size qq157));replace BK401:=am qq384;replace HB:=am qq496;clear hb ho8;obtain ⟨hcz9_0,hcz9_1,hcz9_2,hfz9_0,hfz9_1,hfz9_2⟩:=bcl3 BK401.out) | (go_at_call 103;(with_reducible refine (spec_Days.calls k a0_0 a0_1 _ _ l0_2 a1 a2 t405 _ ?side1 ?side2 A4.out).mono ?_);(case side1 => exact qq117);(case side2 => exact qq334);rintro e w10 ⟨rfl,hb⟩;replace HO404:=am qq497;replace BK401:=am qq384;replace HB:=am qq496;(try clear hb);(try clear hb2);(try clear hk);(try clear hi)));try go_wp2_with (first | ((with_reducible refine gate_dst (N:=3) rfl ?_);refine box_event ?hg (N:=3) ?hd (cs:=#[.int .i64 a0_0,.int .i64 a0_1,.slice A0_2 l0_2.length c0_2]) (t:=51) ?hr ?_;(case hd => rfl);(case hg => rfl);(case hr => exact qq312);intro gb401 hg w6 hbox hb;have BK401:=am (hbox);have GW401:=am qq449;have GE401:=am qq449;replace HB:=am qq488;clear hb hbox hg) | ((with_reducible refine gate_dst (N:=11) rfl ?_);refine Kd.R_lit (Kd.int .i64) _ 3 ?hg (N:=11) ?hd (xs:=([] : List Int)) (inner:=[]) (ok:=fun _ => True) (okp:=fun _ => True) ?hr ?hp (fun _ hk => hk) trivial (Below.refl _ _) (Nat.le_refl _) (by simp) ?_;(case hd => rfl);(case hg => rfl);(case hr => exact qq312);(case hp => exact qq330);intro v403 w7 ho8 hb hg_ hnew_;clear hg_ hnew_;(first | rw [← Ny402.out] at ho8 | (simp only [Int.reduceToNat] at ho8;rw [← Ny402.out] at ho8));have HO404:=am (Kd.R_lower ho8 (below_size qq157));replace BK401:=am qq384;replace HB:=am qq496;clear hb ho8;obtain ⟨hcz9_0,hcz9_1,hcz9_2,hfz9_0,hfz9_1,hfz9_2⟩:=bcl3 BK401.out) | (go_at_call 103;(with_reducible refine (spec_Days.calls k a0_0 a0_1 _ _ l0_2 a1 a2 t405 _ ?side1 ?side2 A4.out).mono ?_);(case side1 => exact qq117);(case side2 => exact qq334);rintro e w10 ⟨rfl,hb⟩;replace HO404:=am qq497;replace BK401:=am qq384;replace HB:=am qq496;(try clear hb);(try clear hb2);(try clear hk);(try clear hi))))
  go_ret
  exact ⟨_,qq263,qq289,qq157⟩
 ·rw [if_neg c5] at H;have c5b0 : decide (t405 < 0) = false:=decide_eq_false c5;clear c5;replace H:=bS.mp H;obtain ⟨t406,A110,H⟩:=H;(try dsimp only at H);have A11:=am A110;clear A110
  by_cases c12 : y402.length < 17592186044416
  ·rw [if_pos c12] at H;have LMc12:=am c12;clear c12;obtain ⟨y409,hy409⟩ : ∃ y_ : List Int,y_ = (y402 ++ [a1]):=⟨_,rfl⟩
   replace H : (spec_WayTo.l0 k a1 a2 y409 t406 a0_0 a0_1 l0_2) = some r:=by first | (rw [hy409];with_reducible exact H) | (have H2_:=(Option.bind_some _ _).symm.trans H;rw [hy409];with_reducible exact H2_) | (have H2_:=(Option.bind_some _ _).symm.trans H;with_reducible exact H2_) | with_reducible exact H | (rw [hy409];exact H) | exact H
   have Ny409:=am hy409;clear hy409;have H':=am H;clear H
   go_enter Try.func109,Try.ntmps109
   go_wp2_with (first | ((with_reducible refine gate_dst (N:=3) rfl ?_);refine box_event ?hg (N:=3) ?hd (cs:=#[.int .i64 a0_0,.int .i64 a0_1,.slice A0_2 l0_2.length c0_2]) (t:=51) ?hr ?_;(case hd => rfl);(case hg => rfl);(case hr => exact qq312);intro gb401 hg w13 hbox hb;have BK401:=am (hbox);have GW401:=am qq449;have GE401:=am qq449;replace HB:=am qq488;clear hb hbox hg) | ((with_reducible refine gate_dst (N:=11) rfl ?_);refine Kd.R_lit (Kd.int .i64) _ 3 ?hg (N:=11) ?hd (xs:=([] : List Int)) (inner:=[]) (ok:=fun _ => True) (okp:=fun _ => True) ?hr ?hp (fun _ hk => hk) trivial (Below.refl _ _) (Nat.le_refl _) (by simp) ?_;(case hd => rfl);(case hg => rfl);(case hr => exact qq312);(case hp => exact qq330);intro v403 w14 ho15 hb hg_ hnew_;clear hg_ hnew_;(first | rw [← Ny402.out] at ho15 | (simp only [Int.reduceToNat] at ho15;rw [← Ny402.out] at ho15));have HO404:=am (Kd.R_lower ho15 (below_size qq157));replace BK401:=am qq384;replace HB:=am qq496;clear hb ho15;obtain ⟨hcz16_0,hcz16_1,hcz16_2,hfz16_0,hfz16_1,hfz16_2⟩:=bcl3 BK401.out) | (go_at_call 103;(with_reducible refine (spec_Days.calls k a0_0 a0_1 _ _ l0_2 a1 a2 t405 _ ?side1 ?side2 A4.out).mono ?_);(case side1 => exact qq117);(case side2 => exact qq334);rintro e w17 ⟨rfl,hb⟩;replace HO404:=am qq497;replace BK401:=am qq384;replace HB:=am qq496;(try clear hb);(try clear hb2);(try clear hk);(try clear hi);obtain ⟨hcz18_0,hcz18_1,hcz18_2,hfz18_0,hfz18_1,hfz18_2⟩:=bcl3 BK401.out) | (go_at_call 136;(with_reducible refine (spec_l5From.calls k a0_0 a0_1 _ _ l0_2 a2 t406 _ ?side1 ?side2 A11.out).mono ?_);(case side1 => exact qq117);(case side2 => exact qq334);rintro e w19 ⟨v407,rfl,ho0,hb⟩;have HO408:=am qq418;replace HO404:=am (Kd.R_elder' qq289 (Kd.R_base ho0) hb);replace BK401:=am qq384;replace HB:=am qq496;(try clear hb);(try clear hb2);(try clear hk);(try clear hi);(try clear ho0)) | ((with_reducible refine gate_builtin (b:=.append) (xs:=#[.tmp 21,.tmp 23]) rfl ?_);at_builtin;refine Kd.R_append (Kd.int .i64) (w0:=w) w.heap.size rfl (.tmp 21) (.tmp 23) 49 3 (.int .i64 0) 8 rfl Try.underlying49 info3 rfl (by decide) (by omega) v403 y402 a1 [.int .i64 a1] (fun k_ => some k_ ≠ (v407 : Value).ownBlock) (fun _ => False) rfl rfl ?aP (fun _ hk => hk.elim) ?aF ?aO ?aB ?aS ?aL ?_;(case aP => exact rfl);(case aB => exact qq137);(case aF => exact qq188);(case aO => exact qq192);(case aS => exact qq108);(case aL => have:=LMc12.out;omega);intro v410 w20 ho hb hg hat;rw [← Ny409.out] at ho;replace BK401:=am qq338;replace HO408:=am qq422;replace HB:=am (hb);have HO411:=am (ho);clear HO404;clear ho hb hg hat))
   repeat (go_quiet (first | ((with_reducible refine gate_dst (N:=3) rfl ?_);refine box_event ?hg (N:=3) ?hd (cs:=#[.int .i64 a0_0,.int .i64 a0_1,.slice A0_2 l0_2.length c0_2]) (t:=51) ?hr ?_;(case hd => rfl);(case hg => rfl);(case hr => exact qq312);intro gb401 hg w13 hbox hb;have BK401:=am (hbox);have GW401:=am qq449;have GE401:=am qq449;replace HB:=am qq488;clear hb hbox hg) | ((with_reducible refine gate_dst (N:=11) rfl ?_);refine Kd.R_lit (Kd.int .i64) _ 3 ?hg (N:=11) ?hd (xs:=([] : List Int)) (inner:=[]) (ok:=fun _ => True) (okp:=fun _ => True) ?hr ?hp (fun _ hk => hk) trivial (Below.refl _ _) (Nat.le_refl _) (by simp) ?_;(case hd => rfl);(case hg => rfl);(case hr => exact qq312);(case hp => exact qq330);intro v403 w14 ho15 hb hg_ hnew_;clear hg_ hnew_;(first | rw [← Ny402.out] at ho15 | (simp only [Int.reduceToNat] at ho15;rw [← Ny402.out] at ho15));have HO404:=am (Kd.R_lower ho15 (below_size qq157));replace BK401:=am qq384;replace HB:=am qq496;clear hb ho15;obtain ⟨hcz16_0,hcz16_1,hcz16_2,hfz16_0,hfz16_1,hfz16_2⟩:=bcl3 BK401.out) | (go_at_call 103;(with_reducible refine (spec_Days.calls k a0_0 a0_1 _ _ l0_2 a1 a2 t405 _ ?side1 ?side2 A4.out).mono ?_);(case side1 => exact qq117);(case side2 => exact qq334);rintro e w17 ⟨rfl,hb⟩;replace HO404:=am qq497;replace BK401:=am qq384;replace HB:=am qq496;(try clear hb);(try clear hb2);(try clear hk);(try clear hi);obtain ⟨hcz18_0,hcz18_1,hcz18_2,hfz18_0,hfz18_1,hfz18_2⟩:=bcl3 BK401.out) | (go_at_call 136;(with_reducible refine (spec_l5From.calls k a0_0 a0_1 _ _ l0_2 a2 t406 _ ?side1 ?side2 A11.out).mono ?_);(case side1 => exact qq117);(case side2 => exact qq334);rintro e w19 ⟨v407,rfl,ho0,hb⟩;have HO408:=am qq418;replace HO404:=am (Kd.R_elder' qq289 (Kd.R_base ho0) hb);replace BK401:=am qq384;replace HB:=am qq496;(try clear hb);(try clear hb2);(try clear hk);(try clear hi);(try clear ho0)) | ((with_reducible refine gate_builtin (b:=.append) (xs:=#[.tmp 21,.tmp 23]) rfl ?_);at_builtin;refine Kd.R_append (Kd.int .i64) (w0:=w) w.heap.size rfl (.tmp 21) (.tmp 23) 49 3 (.int .i64 0) 8 rfl Try.underlying49 info3 rfl (by decide) (by omega) v403 y402 a1 [.int .i64 a1] (fun k_ => some k_ ≠ (v407 : Value).ownBlock) (fun _ => False) rfl rfl ?aP (fun _ hk => hk.elim) ?aF ?aO ?aB ?aS ?aL ?_;(case aP => exact rfl);(case aB => exact qq137);(case aF => exact qq188);(case aO => exact qq192);(case aS => exact qq108);(case aL => have:=LMc12.out;omega);intro v410 w20 ho hb hg hat;rw [← Ny409.out] at ho;replace BK401:=am qq338;replace HO408:=am qq422;replace HB:=am (hb);have HO411:=am (ho);clear HO404;clear ho hb hg hat));try go_wp2_with (first | ((with_reducible refine gate_dst (N:=3) rfl ?_);refine box_event ?hg (N:=3) ?hd (cs:=#[.int .i64 a0_0,.int .i64 a0_1,.slice A0_2 l0_2.length c0_2]) (t:=51) ?hr ?_;(case hd => rfl);(case hg => rfl);(case hr => exact qq312);intro gb401 hg w13 hbox hb;have BK401:=am (hbox);have GW401:=am qq449;have GE401:=am qq449;replace HB:=am qq488;clear hb hbox hg) | ((with_reducible refine gate_dst (N:=11) rfl ?_);refine Kd.R_lit (Kd.int .i64) _ 3 ?hg (N:=11) ?hd (xs:=([] : List Int)) (inner:=[]) (ok:=fun _ => True) (okp:=fun _ => True) ?hr ?hp (fun _ hk => hk) trivial (Below.refl _ _) (Nat.le_refl _) (by simp) ?_;(case hd => rfl);(case hg => rfl);(case hr => exact qq312);(case hp => exact qq330);intro v403 w14 ho15 hb hg_ hnew_;clear hg_ hnew_;(first | rw [← Ny402.out] at ho15 | (simp only [Int.reduceToNat] at ho15;rw [← Ny402.out] at ho15));have HO404:=am (Kd.R_lower ho15 (below_size qq157));replace BK401:=am qq384;replace HB:=am qq496;clear hb ho15;obtain ⟨hcz16_0,hcz16_1,hcz16_2,hfz16_0,hfz16_1,hfz16_2⟩:=bcl3 BK401.out) | (go_at_call 103;(with_reducible refine (spec_Days.calls k a0_0 a0_1 _ _ l0_2 a1 a2 t405 _ ?side1 ?side2 A4.out).mono ?_);(case side1 => exact qq117);(case side2 => exact qq334);rintro e w17 ⟨rfl,hb⟩;replace HO404:=am qq497;replace BK401:=am qq384;replace HB:=am qq496;(try clear hb);(try clear hb2);(try clear hk);(try clear hi);obtain ⟨hcz18_0,hcz18_1,hcz18_2,hfz18_0,hfz18_1,hfz18_2⟩:=bcl3 BK401.out) | (go_at_call 136;(with_reducible refine (spec_l5From.calls k a0_0 a0_1 _ _ l0_2 a2 t406 _ ?side1 ?side2 A11.out).mono ?_);(case side1 => exact qq117);(case side2 => exact qq334);rintro e w19 ⟨v407,rfl,ho0,hb⟩;have HO408:=am qq418;replace HO404:=am (Kd.R_elder' qq289 (Kd.R_base ho0) hb);replace BK401:=am qq384;replace HB:=am qq496;(try clear hb);(try clear hb2);(try clear hk);(try clear hi);(try clear ho0)) | ((with_reducible refine gate_builtin (b:=.append) (xs:=#[.tmp 21,.tmp 23]) rfl ?_);at_builtin;refine Kd.R_append (Kd.int .i64) (w0:=w) w.heap.size rfl (.tmp 21) (.tmp 23) 49 3 (.int .i64 0) 8 rfl Try.underlying49 info3 rfl (by decide) (by omega) v403 y402 a1 [.int .i64 a1] (fun k_ => some k_ ≠ (v407 : Value).ownBlock) (fun _ => False) rfl rfl ?aP (fun _ hk => hk.elim) ?aF ?aO ?aB ?aS ?aL ?_;(case aP => exact rfl);(case aB => exact qq137);(case aF => exact qq188);(case aO => exact qq192);(case aS => exact qq108);(case aL => have:=LMc12.out;omega);intro v410 w20 ho hb hg hat;rw [← Ny409.out] at ho;replace BK401:=am qq338;replace HO408:=am qq422;replace HB:=am (hb);have HO411:=am (ho);clear HO404;clear ho hb hg hat)))
   go_loopg [1,7] k (fun kq v1 v7 w' => ∃ (x1_1 : Int) (x7_1 : List Int),v1 = .int .i64 x1_1 ∧ Aside0 (spec_WayTo.l0 kq x1_1 a2 x7_1 t406 a0_0 a0_1 l0_2 = some r) ∧ Aside0 (kq ≤ k) ∧ Aside0 (Kd.R (Kd.int .i64) 3 w' w.heap.size (fun k_ => some k_ ≠ (v407 : Value).ownBlock) v7 x7_1) ∧ Aside0 (Kd.R (Kd.int .i64) 3 w' w.heap.size (fun k_ => some k_ ≠ (v7 : Value).ownBlock) v407 t406) ∧ Aside0 (w'.heap[gb401]? = some (.cells #[.int .i64 a0_0,.int .i64 a0_1,(.slice A0_2 l0_2.length c0_2)] 51 (0,0))) ∧ Aside0 (Below w.heap.size w w'))
   case atStart => exact ⟨(a1),(y409),qq311,H',⟨Nat.le_refl _⟩,⟨by (with_reducible repeat (first | apply kA | apply kN | apply kD));exact HO411.out⟩,⟨by (with_reducible repeat (first | apply kA | apply kN | apply kD));exact Kd.R_mono HO408.out (fun _ hk => hk.2)⟩,⟨qq232⟩,⟨qq157⟩⟩
   case round =>
    clear H'
    try clear c1
    try clear p2
    try clear c5
    try clear c5b0
    try clear c10
    try clear c12
    try clear hcz16_0
    try clear hcz16_1
    try clear hcz16_2
    try clear hcz18_0
    try clear hcz18_1
    try clear hcz18_2
    try clear hcz9_0
    try clear hcz9_1
    try clear hcz9_2
    try clear hfz16_0
    try clear hfz16_1
    try clear hfz16_2
    try clear hfz18_0
    try clear hfz18_1
    try clear hfz18_2
    try clear hfz9_0
    try clear hfz9_1
    try clear hfz9_2
    obtain ⟨x1_1,x7_1,rfl,HA,HK1,HO_7,HO_8,BK401,HB⟩:=hrel
    cases gk with
    | zero => exact absurd HA.out (by simp [spec_WayTo.l0])
    | succ k1 =>
     have H:=HA.out;clear HA;simp only [spec_WayTo.l0] at H
     by_cases c21 : x1_1 = a2
     ·rw [if_pos c21] at H;have c21b0 : (x1_1 == a2) = true:=beq_iff_eq.mpr c21;have c21b1 : (x1_1 != a2) = false:=bne_eq_false_iff_eq.mpr c21;clear c21;obtain rfl:=Option.some.inj H;go_wp2
      repeat (go_quiet (fail);try go_wp2)
      go_ret
      exact ⟨_,qq263,by (with_reducible repeat (first | apply kA | apply kN | apply kD));exact Kd.R_mono HO_7.out (fun _ hk => trivial),qq157⟩
     ·rw [if_neg c21] at H;have c21b0 : (x1_1 == a2) = false:=beq_eq_false_iff_ne.mpr c21;have c21b1 : (x1_1 != a2) = true:=bne_iff_ne.mpr c21;replace H:=bS.mp H;obtain ⟨t412,A220,H⟩:=H;(try dsimp only at H);have A22:=am A220;clear A220;have H':=am H;clear H;obtain ⟨hcz23_0,hcz23_1,hcz23_2,hfz23_0,hfz23_1,hfz23_2⟩:=bcl3 BK401.out;go_wp2_with (first | (go_at_call 138;(with_reducible refine (spec_l4Near.calls k1 a0_0 a0_1 _ _ l0_2 x1_1 t412 _ ?side1 ?side2 A22.out).mono ?_);(case side1 => exact qq117);(case side2 => exact qq334);rintro e w24 ⟨v413,rfl,ho0,hb⟩;have HO414:=am qq399;replace HO_7:=am qq423;replace HO_8:=am qq424;replace BK401:=am qq384;replace HB:=am qq496;(try clear hb);(try clear hb2);(try clear hk);(try clear hi);(try clear ho0);obtain ⟨Ao25,co25,eo25⟩:=Kd.R_slice HO414.out;subst eo25))
      repeat (go_quiet (first | (go_at_call 138;(with_reducible refine (spec_l4Near.calls k1 a0_0 a0_1 _ _ l0_2 x1_1 t412 _ ?side1 ?side2 A22.out).mono ?_);(case side1 => exact qq117);(case side2 => exact qq334);rintro e w24 ⟨v413,rfl,ho0,hb⟩;have HO414:=am qq399;replace HO_7:=am qq423;replace HO_8:=am qq424;replace BK401:=am qq384;replace HB:=am qq496;(try clear hb);(try clear hb2);(try clear hk);(try clear hi);(try clear ho0);obtain ⟨Ao25,co25,eo25⟩:=Kd.R_slice HO414.out;subst eo25));try go_wp2_with (first | (go_at_call 138;(with_reducible refine (spec_l4Near.calls k1 a0_0 a0_1 _ _ l0_2 x1_1 t412 _ ?side1 ?side2 A22.out).mono ?_);(case side1 => exact qq117);(case side2 => exact qq334);rintro e w24 ⟨v413,rfl,ho0,hb⟩;have HO414:=am qq399;replace HO_7:=am qq423;replace HO_8:=am qq424;replace BK401:=am qq384;replace HB:=am qq496;(try clear hb);(try clear hb2);(try clear hk);(try clear hi);(try clear ho0);obtain ⟨Ao25,co25,eo25⟩:=Kd.R_slice HO414.out;subst eo25)))
      go_loopg [1,10] k1 (fun kq v1 v10 w' => ∃ (x1_2 : Int) (x10_2 : Int),v1 = .int .i64 x1_2 ∧ v10 = .int .i64 x10_2 ∧ Aside0 (spec_WayTo.l1 kq x1_2 a2 x7_1 t406 t412 x10_2 a0_0 a0_1 l0_2 = some r) ∧ Aside0 (kq ≤ k1) ∧ Aside0 (Kd.R (Kd.int .i64) 3 w' w.heap.size (fun k_ => some k_ ≠ (v407 : Value).ownBlock ∧ some k_ ≠ ((.slice Ao25 t412.length co25) : Value).ownBlock) u7 x7_1) ∧ Aside0 (Kd.R (Kd.int .i64) 3 w' w.heap.size (fun k_ => some k_ ≠ (u7 : Value).ownBlock ∧ some k_ ≠ ((.slice Ao25 t412.length co25) : Value).ownBlock) v407 t406) ∧ Aside0 (Kd.R (Kd.int .i64) 3 w' w.heap.size (fun k_ => some k_ ≠ (u7 : Value).ownBlock ∧ some k_ ≠ (v407 : Value).ownBlock) (.slice Ao25 t412.length co25) t412) ∧ Aside0 (w'.heap[gb401]? = some (.cells #[.int .i64 a0_0,.int .i64 a0_1,(.slice A0_2 l0_2.length c0_2)] 51 (0,0))) ∧ Aside0 (Below w.heap.size w w'))
      case atStart => exact ⟨(x1_1),(wrap64 ((t412.length : Int) - 1)),qq311,qq311,H',⟨Nat.le_refl _⟩,⟨qq302⟩,⟨qq301⟩,⟨by (with_reducible repeat (first | apply kA | apply kN | apply kD));exact Kd.R_mono HO414.out (fun _ hk => ⟨hk.1.2,hk.2⟩)⟩,⟨qq232⟩,⟨qq157⟩⟩
      case round =>
       clear H'
       try clear c1
       try clear c2
       try clear p2
       try clear c5
       try clear c5b0
       try clear p6
       try clear c10
       try clear c12
       try clear c21
       try clear c21b0
       try clear c21b1
       try clear hcz16_0
       try clear hcz16_1
       try clear hcz16_2
       try clear hcz18_0
       try clear hcz18_1
       try clear hcz18_2
       try clear hcz23_0
       try clear hcz23_1
       try clear hcz23_2
       try clear hcz9_0
       try clear hcz9_1
       try clear hcz9_2
       try clear hfz16_0
       try clear hfz16_1
       try clear hfz16_2
       try clear hfz18_0
       try clear hfz18_1
       try clear hfz18_2
       try clear hfz23_0
       try clear hfz23_1
       try clear hfz23_2
       try clear hfz9_0
       try clear hfz9_1
       try clear hfz9_2
       try clear p2
       obtain ⟨x1_2,x10_2,rfl,rfl,HA,HK2,HO_7,HO_8,HO_9,BK401,HB⟩:=hrel
       cases gk with
       | zero => exact absurd HA.out (by simp [spec_WayTo.l1])
       | succ k2 =>
        have H:=HA.out;clear HA;simp only [spec_WayTo.l1] at H
        by_cases c26 : x10_2 ≥ 0
        ·rw [if_pos c26] at H;have c26b0 : decide (0 ≤ x10_2) = true:=decide_eq_true c26;clear c26
         by_cases c27 : 0 ≤ x10_2
         ·rw [if_pos c27] at H;have c27b0 : decide (0 ≤ x10_2) = true:=decide_eq_true c27;clear c27
          by_cases c28 : x10_2 < (t412.length : Int)
          ·rw [if_pos c28] at H;have c28b0 : decide (x10_2 < (t412.length : Int)) = true:=decide_eq_true c28;clear c28
           by_cases c29 : 0 ≤ (rd t412 x10_2)
           ·rw [if_pos c29] at H;have c29b0 : decide (0 ≤ (rd t412 x10_2)) = true:=decide_eq_true c29;clear c29
            by_cases c30 : (rd t412 x10_2) < (t406.length : Int)
            ·rw [if_pos c30] at H;have c30b0 : decide ((rd t412 x10_2) < (t406.length : Int)) = true:=decide_eq_true c30;clear c30;obtain ⟨ji31,hji31⟩ : ∃ j_ : Int,(wrap64 ((x7_1.length : Int) - 1)) = j_:=⟨_,rfl⟩
             replace H : (if 0 ≤ (ji31) then (if (ji31) < (x7_1.length : Int) then (if 0 ≤ (rd x7_1 (ji31)) then (if (rd x7_1 (ji31)) < (t406.length : Int) then (if (rd t406 (rd t412 x10_2)) = (wrap64 ((rd t406 (rd x7_1 (ji31))) - 1)) then (spec_WayTo.l1 k2 (rd t412 x10_2) a2 x7_1 t406 t412 (wrap64 (x10_2 - 1)) a0_0 a0_1 l0_2) else (spec_WayTo.l1 k2 x1_2 a2 x7_1 t406 t412 (wrap64 (x10_2 - 1)) a0_0 a0_1 l0_2)) else (none)) else (none)) else (none)) else (none)) = some r:=by first | (rw [hji31] at H;exact H) | (simp only [hji31] at H ⊢;exact H)
             have hji31w : (IntKind.i64.wrap ((x7_1.length : Int) - 1)) = ji31:=(i64_w _).trans hji31
             by_cases c32 : 0 ≤ (ji31)
             ·rw [if_pos c32] at H;have c32b0 : decide (0 ≤ (ji31)) = true:=decide_eq_true c32;clear c32
              by_cases c33 : (ji31) < (x7_1.length : Int)
              ·rw [if_pos c33] at H;have c33b0 : decide ((ji31) < (x7_1.length : Int)) = true:=decide_eq_true c33;clear c33
               by_cases c34 : 0 ≤ (rd x7_1 (ji31))
               ·rw [if_pos c34] at H;have c34b0 : decide (0 ≤ (rd x7_1 (ji31))) = true:=decide_eq_true c34;clear c34
                by_cases c35 : (rd x7_1 (ji31)) < (t406.length : Int)
                ·rw [if_pos c35] at H;have c35b0 : decide ((rd x7_1 (ji31)) < (t406.length : Int)) = true:=decide_eq_true c35;clear c35
                 by_cases c36 : (rd t406 (rd t412 x10_2)) = (wrap64 ((rd t406 (rd x7_1 (ji31))) - 1))
                 ·rw [if_pos c36] at H;have c36b0 : ((rd t406 (rd t412 x10_2)) == (wrap64 ((rd t406 (rd x7_1 (ji31))) - 1))) = true:=beq_iff_eq.mpr c36;have c36b1 : ((rd t406 (rd t412 x10_2)) != (wrap64 ((rd t406 (rd x7_1 (ji31))) - 1))) = false:=bne_eq_false_iff_eq.mpr c36;clear c36;have H':=am H;clear H;have p415 : 0 ≤ (x10_2 : Int):=odt qq309;have q415 : x10_2 < (t412.length : Int):=odt qq309;obtain ⟨ad415,e415,hx415_0⟩:=Kd.at_int (Kd.R_reads' HO_9.out).2.2 x10_2 p415 q415
                  cases e415
                  replace p415:=eq_true p415;replace q415:=eq_true q415;obtain ⟨Ao37,co37,eo37⟩:=Kd.R_slice HO_8.out;subst eo37;have p416 : 0 ≤ ((rd t412 x10_2) : Int):=odt qq309;have q416 : (rd t412 x10_2) < (t406.length : Int):=odt qq309;obtain ⟨ad416,e416,hx416_0⟩:=Kd.at_int (Kd.R_reads' HO_8.out).2.2 (rd t412 x10_2) p416 q416
                  cases e416
                  replace p416:=eq_true p416;replace q416:=eq_true q416;obtain ⟨Ao38,co38,eo38⟩:=Kd.R_slice HO_7.out;subst eo38;have p417 : 0 ≤ ((ji31) : Int):=odt qq309;have q417 : (ji31) < (x7_1.length : Int):=odt qq309;obtain ⟨ad417,e417,hx417_0⟩:=Kd.at_int (Kd.R_reads' HO_7.out).2.2 (ji31) p417 q417
                  cases e417
                  replace p417:=eq_true p417;replace q417:=eq_true q417;have p418 : 0 ≤ ((rd x7_1 (ji31)) : Int):=odt qq309;have q418 : (rd x7_1 (ji31)) < (t406.length : Int):=odt qq309;obtain ⟨ad418,e418,hx418_0⟩:=Kd.at_int (Kd.R_reads' HO_8.out).2.2 (rd x7_1 (ji31)) p418 q418;obtain rfl : ad416 = ad418:=(by injection e418)
                  replace p418:=eq_true p418;replace q418:=eq_true q418;have p419 : 0 ≤ (x10_2 : Int):=odt qq309;have q419 : x10_2 < (t412.length : Int):=odt qq309;obtain ⟨ad419,e419,hx419_0⟩:=Kd.at_int (Kd.R_reads' HO_9.out).2.2 x10_2 p419 q419;obtain rfl : ad415 = ad419:=(by injection e419)
                  replace p419:=eq_true p419;replace q419:=eq_true q419;go_wp2
                  repeat (go_quiet (fail);try go_wp2)
                  go_roundg k2
                  case measure => have:=HK1.out;have:=HK2.out;omega
                  case rel => exact ⟨(rd t412 x10_2),(wrap64 (x10_2 - 1)),qq311,qq311,H',⟨qq314⟩,⟨qq302⟩,⟨qq301⟩,⟨qq300⟩,⟨qq232⟩,⟨qq157⟩⟩
                 ·rw [if_neg c36] at H;have c36b0 : ((rd t406 (rd t412 x10_2)) == (wrap64 ((rd t406 (rd x7_1 (ji31))) - 1))) = false:=beq_eq_false_iff_ne.mpr c36;have c36b1 : ((rd t406 (rd t412 x10_2)) != (wrap64 ((rd t406 (rd x7_1 (ji31))) - 1))) = true:=bne_iff_ne.mpr c36;have H':=am H;clear H;have p415 : 0 ≤ (x10_2 : Int):=odt qq309;have q415 : x10_2 < (t412.length : Int):=odt qq309;obtain ⟨ad415,e415,hx415_0⟩:=Kd.at_int (Kd.R_reads' HO_9.out).2.2 x10_2 p415 q415
                  cases e415
                  replace p415:=eq_true p415;replace q415:=eq_true q415;obtain ⟨Ao39,co39,eo39⟩:=Kd.R_slice HO_8.out;subst eo39;have p416 : 0 ≤ ((rd t412 x10_2) : Int):=odt qq309;have q416 : (rd t412 x10_2) < (t406.length : Int):=odt qq309;obtain ⟨ad416,e416,hx416_0⟩:=Kd.at_int (Kd.R_reads' HO_8.out).2.2 (rd t412 x10_2) p416 q416
                  cases e416
                  replace p416:=eq_true p416;replace q416:=eq_true q416;obtain ⟨Ao40,co40,eo40⟩:=Kd.R_slice HO_7.out;subst eo40;have p417 : 0 ≤ ((ji31) : Int):=odt qq309;have q417 : (ji31) < (x7_1.length : Int):=odt qq309;obtain ⟨ad417,e417,hx417_0⟩:=Kd.at_int (Kd.R_reads' HO_7.out).2.2 (ji31) p417 q417
                  cases e417
                  replace p417:=eq_true p417;replace q417:=eq_true q417;have p418 : 0 ≤ ((rd x7_1 (ji31)) : Int):=odt qq309;have q418 : (rd x7_1 (ji31)) < (t406.length : Int):=odt qq309;obtain ⟨ad418,e418,hx418_0⟩:=Kd.at_int (Kd.R_reads' HO_8.out).2.2 (rd x7_1 (ji31)) p418 q418;obtain rfl : ad416 = ad418:=(by injection e418)
                  replace p418:=eq_true p418;replace q418:=eq_true q418;go_wp2
                  repeat (go_quiet (fail);try go_wp2)
                  go_roundg k2
                  case measure => have:=HK1.out;have:=HK2.out;omega
                  case rel => exact ⟨(x1_2),(wrap64 (x10_2 - 1)),qq311,qq311,H',⟨qq314⟩,⟨qq302⟩,⟨qq301⟩,⟨qq300⟩,⟨qq232⟩,⟨qq157⟩⟩
                ·rw [if_neg c35] at H;exact absurd H (by simp)
               ·rw [if_neg c34] at H;exact absurd H (by simp)
              ·rw [if_neg c33] at H;exact absurd H (by simp)
             ·rw [if_neg c32] at H;exact absurd H (by simp)
            ·rw [if_neg c30] at H;exact absurd H (by simp)
           ·rw [if_neg c29] at H;exact absurd H (by simp)
          ·rw [if_neg c28] at H;exact absurd H (by simp)
         ·rw [if_neg c27] at H;exact absurd H (by simp)
        ·rw [if_neg c26] at H;have c26b0 : decide (0 ≤ x10_2) = false:=decide_eq_false c26;clear c26
         by_cases c41 : x7_1.length < 17592186044416
         ·rw [if_pos c41] at H;have LMc41:=am c41;clear c41;obtain ⟨y420,hy420⟩ : ∃ y_ : List Int,y_ = (x7_1 ++ [x1_2]):=⟨_,rfl⟩
          replace H : (spec_WayTo.l0 k2 x1_2 a2 y420 t406 a0_0 a0_1 l0_2) = some r:=by first | (rw [hy420];with_reducible exact H) | (have H2_:=(Option.bind_some _ _).symm.trans H;rw [hy420];with_reducible exact H2_) | (have H2_:=(Option.bind_some _ _).symm.trans H;with_reducible exact H2_) | with_reducible exact H | (rw [hy420];exact H) | exact H
          have Ny420:=am hy420;clear hy420;have H':=am H;clear H;go_wp2_with (first | ((with_reducible refine gate_builtin (b:=.append) (xs:=#[.tmp 60,.tmp 62]) rfl ?_);at_builtin;refine Kd.R_append (Kd.int .i64) (w0:=w) w.heap.size rfl (.tmp 60) (.tmp 62) 49 3 (.int .i64 0) 8 rfl Try.underlying49 info3 rfl (by decide) (by omega) u7 x7_1 x1_2 [.int .i64 x1_2] (fun k_ => some k_ ≠ (v407 : Value).ownBlock ∧ some k_ ≠ (.slice Ao25 t412.length co25 : Value).ownBlock) (fun _ => False) rfl rfl ?aP (fun _ hk => hk.elim) ?aF ?aO ?aB ?aS ?aL ?_;(case aP => exact rfl);(case aB => exact qq137);(case aF => exact qq30);(case aO => exact qq268);(case aS => exact qq108);(case aL => have:=LMc41.out;omega);intro v421 w42 ho hb hg hat;rw [← Ny420.out] at ho;replace HO_8:=am qq396;replace HO_9:=am qq416;replace BK401:=am qq345;replace HB:=am (hb);have HO422:=am (ho);clear HO_7;clear ho hb hg hat))
          repeat (go_quiet (first | ((with_reducible refine gate_builtin (b:=.append) (xs:=#[.tmp 60,.tmp 62]) rfl ?_);at_builtin;refine Kd.R_append (Kd.int .i64) (w0:=w) w.heap.size rfl (.tmp 60) (.tmp 62) 49 3 (.int .i64 0) 8 rfl Try.underlying49 info3 rfl (by decide) (by omega) u7 x7_1 x1_2 [.int .i64 x1_2] (fun k_ => some k_ ≠ (v407 : Value).ownBlock ∧ some k_ ≠ (.slice Ao25 t412.length co25 : Value).ownBlock) (fun _ => False) rfl rfl ?aP (fun _ hk => hk.elim) ?aF ?aO ?aB ?aS ?aL ?_;(case aP => exact rfl);(case aB => exact qq137);(case aF => exact qq30);(case aO => exact qq268);(case aS => exact qq108);(case aL => have:=LMc41.out;omega);intro v421 w42 ho hb hg hat;rw [← Ny420.out] at ho;replace HO_8:=am qq396;replace HO_9:=am qq416;replace BK401:=am qq345;replace HB:=am (hb);have HO422:=am (ho);clear HO_7;clear ho hb hg hat));try go_wp2_with (first | ((with_reducible refine gate_builtin (b:=.append) (xs:=#[.tmp 60,.tmp 62]) rfl ?_);at_builtin;refine Kd.R_append (Kd.int .i64) (w0:=w) w.heap.size rfl (.tmp 60) (.tmp 62) 49 3 (.int .i64 0) 8 rfl Try.underlying49 info3 rfl (by decide) (by omega) u7 x7_1 x1_2 [.int .i64 x1_2] (fun k_ => some k_ ≠ (v407 : Value).ownBlock ∧ some k_ ≠ (.slice Ao25 t412.length co25 : Value).ownBlock) (fun _ => False) rfl rfl ?aP (fun _ hk => hk.elim) ?aF ?aO ?aB ?aS ?aL ?_;(case aP => exact rfl);(case aB => exact qq137);(case aF => exact qq30);(case aO => exact qq268);(case aS => exact qq108);(case aL => have:=LMc41.out;omega);intro v421 w42 ho hb hg hat;rw [← Ny420.out] at ho;replace HO_8:=am qq396;replace HO_9:=am qq416;replace BK401:=am qq345;replace HB:=am (hb);have HO422:=am (ho);clear HO_7;clear ho hb hg hat)))
          go_roundg k2
          case measure => have:=HK1.out;have:=HK2.out;omega
          case rel => exact ⟨(x1_2),(y420),qq311,H',⟨qq314⟩,⟨by (with_reducible repeat (first | apply kA | apply kN | apply kD));exact Kd.R_mono HO422.out (fun _ hk => hk.1)⟩,⟨by (with_reducible repeat (first | apply kA | apply kN | apply kD));exact Kd.R_mono HO_8.out (fun _ hk => hk.2)⟩,⟨qq232⟩,⟨qq157⟩⟩
         ·rw [if_neg c41] at H;exact absurd H (by simp)
  ·rw [if_neg c12] at H;exact absurd H (by simp)

end Go.Proofs.Ytcbkknpmeknppaa.PFnExactPlanFood
