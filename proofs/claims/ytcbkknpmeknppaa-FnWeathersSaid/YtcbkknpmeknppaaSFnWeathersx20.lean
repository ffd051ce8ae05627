/- Contracts of functions that the law FnWeathers reaches, for its row: lines that the kit's printer wrote for this claim, set shorter by a program of this session (own.py), and what fell in Lean proved anew. Lean checks them. -/
import Derived.Test.YtcbkknpmeknppaaSFnWeathersx0
import Derived.Test.YtcbkknpmeknppaaSFnWeathersx1
import Derived.Test.YtcbkknpmeknppaaSFnWeathersx3
import Derived.Test.YtcbkknpmeknppaaSFnWeathersx5
import Derived.Test.YtcbkknpmeknppaaSFnWeathersx7
import Derived.Test.YtcbkknpmeknppaaSFnWeathersx8
import Derived.Test.YtcbkknpmeknppaaSFnWeathersx9
import Derived.Test.YtcbkknpmeknppaaSFnWeathersx10
import Derived.Test.YtcbkknpmeknppaaSFnWeathersx11
import Derived.Test.YtcbkknpmeknppaaSFnWeathersx19
namespace Go.Proofs.Ytcbkknpmeknppaa.PFnWeathers
open Go.RowKit Go.Proofs.YtcbkknpmeknppaaW.PrintWords Go.Proofs.YtcbkknpmeknppaaW.PrintLast Go.Proofs.YtcbkknpmeknppaaW.PrintMore
attribute [local go_sem] max2_int min2_int max_two min_two max_three min_three max_four min_four   -- for this text's walks alone
set_option linter.unusedVariables false
set_option linter.unusedSimpArgs false

abbrev m0_20 : Array Bool := #[Z,Z,Z,Z,Z,Z,Z,Z,Z,Z,Z,Z,Z,Z,Z,Z,Z,Z,Z,Z,Z,Z,Z,Z,Z]
abbrev m1_20 : Array Bool := #[Y,Z,Z,Z,Z,Z,Z,Z,Z,Z,Z,Z,Z,Z,Z,Z,Z,Z,Z,Z,Z,Z,Z,Z,Z]
abbrev m2_20 : Array Bool := #[Y,Y,Z,Z,Z,Z,Z,Z,Z,Z,Z,Z,Z,Z,Z,Z,Z,Z,Z,Z,Z,Z,Z,Z,Z]
abbrev m3_20 : Array Bool := #[Y,Y,Y,Z,Z,Z,Z,Z,Z,Z,Z,Z,Z,Z,Z,Z,Z,Z,Z,Z,Z,Z,Z,Z,Z]
abbrev m4_20 : Array Bool := #[Y,Y,Y,Y,Z,Z,Z,Z,Z,Z,Z,Z,Z,Z,Z,Z,Z,Z,Z,Z,Z,Z,Z,Z,Z]
abbrev m5_20 : Array Bool := #[Y,Y,Y,Y,Y,Z,Z,Z,Z,Z,Z,Z,Z,Z,Z,Z,Z,Z,Z,Z,Z,Z,Z,Z,Z]
abbrev m6_20 : Array Bool := #[Y,Y,Y,Y,Y,Y,Z,Z,Z,Z,Z,Z,Z,Z,Z,Z,Z,Z,Z,Z,Z,Z,Z,Z,Z]
abbrev m7_20 : Array Bool := #[Y,Y,Y,Y,Y,Y,Y,Z,Z,Z,Z,Z,Z,Z,Z,Z,Z,Z,Z,Z,Z,Z,Z,Z,Z]
abbrev m8_20 : Array Bool := #[Y,Y,Y,Y,Y,Y,Y,Y,Z,Z,Z,Z,Z,Z,Z,Z,Z,Z,Z,Z,Z,Z,Z,Z,Z]
abbrev m9_20 : Array Bool := #[Y,Y,Y,Y,Y,Y,Y,Y,Y,Z,Z,Z,Z,Z,Z,Z,Z,Z,Z,Z,Z,Z,Z,Z,Z]
abbrev m10_20 : Array Bool := #[Y,Y,Y,Y,Y,Y,Y,Y,Y,Y,Z,Z,Z,Z,Z,Z,Z,Z,Z,Z,Z,Z,Z,Z,Z]
abbrev m11_20 : Array Bool := #[Y,Y,Y,Y,Y,Y,Y,Y,Y,Y,Y,Z,Z,Z,Z,Z,Z,Z,Z,Z,Z,Z,Z,Z,Z]
abbrev m12_20 : Array Bool := #[Y,Y,Y,Y,Y,Y,Y,Y,Y,Y,Y,Y,Z,Z,Z,Z,Z,Z,Z,Z,Z,Z,Z,Z,Z]
abbrev m13_20 : Array Bool := #[Y,Y,Y,Y,Y,Y,Y,Y,Y,Y,Y,Y,Y,Z,Z,Z,Z,Z,Z,Z,Z,Z,Z,Z,Z]
abbrev m14_20 : Array Bool := #[Y,Y,Y,Y,Y,Y,Y,Y,Y,Y,Y,Y,Y,Y,Z,Z,Z,Z,Z,Z,Z,Z,Z,Z,Z]
abbrev m15_20 : Array Bool := #[Y,Y,Y,Y,Y,Y,Y,Y,Y,Y,Y,Y,Y,Y,Y,Z,Z,Z,Z,Z,Z,Z,Z,Z,Z]
abbrev m16_20 : Array Bool := #[Y,Y,Y,Y,Y,Y,Y,Y,Y,Y,Y,Y,Y,Y,Y,Y,Z,Z,Z,Z,Z,Z,Z,Z,Z]
abbrev m17_20 : Array Bool := #[Y,Y,Y,Y,Y,Y,Y,Y,Y,Y,Y,Y,Y,Y,Y,Y,Y,Z,Z,Z,Z,Z,Z,Z,Z]
abbrev m18_20 : Array Bool := #[Y,Y,Y,Y,Y,Y,Y,Y,Y,Y,Y,Y,Y,Y,Y,Y,Y,Y,Z,Z,Z,Z,Z,Z,Z]
abbrev m19_20 : Array Bool := #[Y,Y,Y,Y,Y,Y,Y,Y,Y,Y,Y,Y,Y,Y,Y,Y,Y,Y,Y,Z,Z,Z,Z,Z,Z]
abbrev m20_20 : Array Bool := #[Y,Y,Y,Y,Y,Y,Y,Y,Y,Y,Y,Y,Y,Y,Y,Y,Y,Y,Y,Y,Z,Z,Z,Z,Z]
abbrev m21_20 : Array Bool := #[Y,Y,Y,Y,Y,Y,Y,Y,Y,Y,Y,Y,Y,Y,Y,Y,Y,Y,Y,Y,Y,Z,Z,Z,Z]
abbrev m22_20 : Array Bool := #[Y,Y,Y,Y,Y,Y,Y,Y,Y,Y,Y,Y,Y,Y,Y,Y,Y,Y,Y,Y,Y,Y,Z,Z,Z]
abbrev m23_20 : Array Bool := #[Y,Y,Y,Y,Y,Y,Y,Y,Y,Y,Y,Y,Y,Y,Y,Y,Y,Y,Y,Y,Y,Y,Y,Z,Z]
abbrev m24_20 : Array Bool := #[Y,Y,Y,Y,Y,Y,Y,Y,Y,Y,Y,Y,Y,Y,Y,Y,Y,Y,Y,Y,Y,Y,Y,Y,Z]
abbrev m25_20 : Array Bool := #[Y,Y,Y,Y,Y,Y,Y,Y,Y,Y,Y,Y,Y,Y,Y,Y,Y,Y,Y,Y,Y,Y,Y,Y,Y]
/-! ### laws_FnWeathers: function 4 -/
mutual
def laws_FnWeathers.j0 : Nat → List Int → Bool → Option (Bool)
 | 0,_,_ => none
 | k + 1,x0,x42 => if x42 = true then (some false) else ((spec_DrawCountWeathers.f k x0).bind fun bt707 => ((impl_CountWeathers.f k bt707.1 bt707.2.1 bt707.2.2.1 bt707.2.2.2).bind fun t714 => ((impl_IsRule.f bt707.1 bt707.2.1).bind fun t715 => (if t715 = true then (if bt707.2.2.2 ≥ 0 then (if bt707.2.2.2 ≤ 10 then (if t714 < 1 then (laws_FnWeathers.j1 k x0 true) else (if 0 ≤ bt707.2.2.2 then (laws_FnWeathers.j1 k x0 (decide (t714 > (shl .i64 1 bt707.2.2.2)))) else (none))) else (laws_FnWeathers.j1 k x0 false)) else (laws_FnWeathers.j1 k x0 false)) else (laws_FnWeathers.j1 k x0 false)))))
def laws_FnWeathers.j1 : Nat → List Int → Bool → Option (Bool)
 | 0,_,_ => none
 | k + 1,x0,x72 => if x72 = true then (some false) else ((spec_DrawLongestStorm.f k x0).bind fun bt716 => ((impl_LongestStorm.f k bt716.1 bt716.2.1 bt716.2.2).bind fun t722 => ((impl_IsRule.f bt716.1 bt716.2.1).bind fun t723 => (if t723 = true then (if t722 > bt716.1 then (laws_FnWeathers.j2 k x0 true) else (laws_FnWeathers.j2 k x0 (decide (t722 < 0)))) else (laws_FnWeathers.j2 k x0 (decide (t722 < 0)))))))
def laws_FnWeathers.j2 : Nat → List Int → Bool → Option (Bool)
 | 0,_,_ => none
 | k + 1,x0,x92 => if x92 = true then (some false) else ((spec_DrawThatKeep.f k x0).bind fun bt724 => ((impl_ThatKeep.f k bt724.1 bt724.2.1 bt724.2.2.1 bt724.2.2.2).bind fun t733 => ((spec_DrawFoodAfter.f k x0).bind fun bt734 => ((impl_FoodAfter.f k bt734.1 bt734.2.1 bt734.2.2.1 bt734.2.2.2.1 bt734.2.2.2.2).bind fun t744 => (if t733 ≥ 0 then (if t733 ≤ (bt724.2.2.2.length : Int) then (if t744 < 0 then (laws_FnWeathers.j3 k true) else ((impl_NeedOf.f k bt734.2.2.1).bind fun t745 => (laws_FnWeathers.j3 k ((wrap64 (t744 + (wrap64 (bt734.2.2.2.2 * t745)))) == bt734.2.1)))) else (laws_FnWeathers.j3 k false)) else (laws_FnWeathers.j3 k false))))))
def laws_FnWeathers.j3 : Nat → Bool → Option (Bool)
 | 0,_ => none
 | k + 1,x2 => some x2
end
def laws_FnWeathers.f (k : Nat) (l0 : List Int) : Option (Bool) := (laws_big.f l0).bind fun t697 => (if t697 = true then (some true) else ((spec_DrawSlowestDays.f k l0).bind fun bt698 => ((impl_SlowestDays.f k bt698.1 bt698.2.1 bt698.2.2.1 bt698.2.2.2).bind fun t705 => (if t705 ≥ 0 then ((impl_WorstDays.f k bt698.1 bt698.2.1 bt698.2.2.1 bt698.2.2.2).bind fun t706 => (laws_FnWeathers.j0 k l0 (t705 != t706))) else (laws_FnWeathers.j0 k l0 false)))))
def laws_FnWeathers.T19 : Bool × List (List Nat × List Nat) := (true, [([], []), ([0], [0]), ([1], [1]), ([2], [2]), ([2], [2]), ([4, 2], [2, 4]), ([3, 5, 2], [2, 3, 5]), ([2, 6], [2, 6]), ([7, 2], [7]), ([8], [8]), ([9, 8], [8, 9]), ([10, 8, 8], [8, 10]), ([11], [11]), ([11], [11]), ([11], [11]), ([14, 11], [11, 14]), ([15, 11, 11], [11, 15]), ([13, 16, 11], [11, 13, 16]), ([12, 17, 11], [11, 12, 17]), ([11], [11]), ([19, 11], [11, 19]), ([18, 20, 11], [11, 18, 20]), ([11, 21, 8], [8, 11, 21]), ([8, 22], [8, 22]), ([23, 16, 0, 1, 2, 3, 4, 5, 6, 7, 8, 9, 10, 11, 12, 13, 14, 15, 16, 17, 18, 19, 20, 21, 22, 23], [23])])
def laws_FnWeathers.B19 : List Nat := [0, 1, 3, 7, 7, 23, 63, 127, 255, 511, 1023, 2047, 4095, 4095, 4095, 20479, 53247, 126975, 262143, 4095, 528383, 2097151, 4194303, 8388607, 16777215]
theorem laws_FnWeathers.tab19 : rtab .any (opsOf Try.f4 19) = laws_FnWeathers.T19 := by kernel_rfl
theorem laws_FnWeathers.bits19 : waitsOk laws_FnWeathers.T19.2 laws_FnWeathers.B19 = true := by kernel_rfl
set_option maxHeartbeats 8000000 in
set_option maxRecDepth 100000 in
theorem laws_FnWeathers.calls (k : Nat) (A0 : Option Addr) (c0 : Nat) (l0 : List Int) (r : Bool) (w : World) (hr0 : Kd.C (Kd.int .u8) w A0 l0.length l0) (hc0 : l0.length ≤ c0) (h : laws_FnWeathers.f k l0 = some r) :
  Calls Try.prog 4 #[.slice A0 l0.length c0] w fun e w' => e = .returned (.bool r) ∧ Below w.heap.size w w':=by
 have hu37:=Try.underlying37;have hu27:=Try.underlying27;have HR0:=am hr0;have HC0:=am hc0;clear hr0 hc0;have HB:=am (Below.refl w.heap.size w);have H : ((laws_big.f l0).bind fun t697 => (if t697 = true then (some true) else ((spec_DrawSlowestDays.f k l0).bind fun bt698 => ((impl_SlowestDays.f k bt698.1 bt698.2.1 bt698.2.2.1 bt698.2.2.2).bind fun t705 => (if t705 ≥ 0 then ((impl_WorstDays.f k bt698.1 bt698.2.1 bt698.2.2.1 bt698.2.2.2).bind fun t706 => (laws_FnWeathers.j0 k l0 (t705 != t706))) else (laws_FnWeathers.j0 k l0 false)))))) = some r:=h;clear h;replace H:=bS.mp H;obtain ⟨t697,A20,H⟩:=H;replace H : (if t697 = true then (some true) else ((spec_DrawSlowestDays.f k l0).bind fun bt698 => ((impl_SlowestDays.f k bt698.1 bt698.2.1 bt698.2.2.1 bt698.2.2.2).bind fun t705 => (if t705 ≥ 0 then ((impl_WorstDays.f k bt698.1 bt698.2.1 bt698.2.2.1 bt698.2.2.2).bind fun t706 => (laws_FnWeathers.j0 k l0 (t705 != t706))) else (laws_FnWeathers.j0 k l0 false))))) = some r:=H;have A2:=am A20;clear A20
 by_cases c3 : t697 = true
 ·subst c3;have H1 : (some true) = some r:=by rw [if_pos rfl] at H;exact H
  clear H;have H:=H1;clear H1;obtain rfl:=Option.some.inj H
  go_enter Try.func4,Try.ntmps4
  go_wp2_with (first | ((with_reducible refine gate_callee (f:=11) rfl ?_);refine goesL_ (some 22) rfl rfl Try.func11 (by kernel_rfl) rfl #[.slice A0 l0.length c0] rfl qq177 ?_;(with_reducible refine (laws_big.calls _ _ l0 true _ ?side1 ?side2 A2.out).mono ?_);(case side1 => exact qq179);(case side2 => exact HC0.out);rintro e w' ⟨rfl,⟨nd,rfl⟩⟩;refine ⟨_,rfl,?_⟩))
  go_ret
  exact ⟨qq244,qq189⟩
 ·replace c3:=Bool.eq_false_iff.mpr c3;subst c3;have H1 : ((spec_DrawSlowestDays.f k l0).bind fun bt698 => ((impl_SlowestDays.f k bt698.1 bt698.2.1 bt698.2.2.1 bt698.2.2.2).bind fun t705 => (if t705 ≥ 0 then ((impl_WorstDays.f k bt698.1 bt698.2.1 bt698.2.2.1 bt698.2.2.2).bind fun t706 => (laws_FnWeathers.j0 k l0 (t705 != t706))) else (laws_FnWeathers.j0 k l0 false)))) = some r:=by rw [if_neg (show ¬ (false = true) by decide)] at H;exact H
  clear H;have H:=H1;clear H1;replace H:=bS.mp H;obtain ⟨⟨t698,t699,t700,t703⟩,A40,H⟩:=H;replace H : ((impl_SlowestDays.f k t698 t699 t700 t703).bind fun t705 => (if t705 ≥ 0 then ((impl_WorstDays.f k t698 t699 t700 t703).bind fun t706 => (laws_FnWeathers.j0 k l0 (t705 != t706))) else (laws_FnWeathers.j0 k l0 false))) = some r:=H;have A4:=am A40;clear A40;replace H:=bS.mp H;obtain ⟨t705,A50,H⟩:=H;replace H : (if t705 ≥ 0 then ((impl_WorstDays.f k t698 t699 t700 t703).bind fun t706 => (laws_FnWeathers.j0 k l0 (t705 != t706))) else (laws_FnWeathers.j0 k l0 false)) = some r:=H;have A5:=am A50;clear A50;have HC6:=am H;clear H
  go_enter Try.func4,Try.ntmps4
  go_upto_region 5 with (first | ((with_reducible refine gate_callee (f:=11) rfl ?_);refine goesL_ (some 22) rfl rfl Try.func11 (by kernel_rfl) rfl #[.slice A0 l0.length c0] rfl qq177 ?_;(with_reducible refine (laws_big.calls _ _ l0 false _ ?side1 ?side2 A2.out).mono ?_);(case side1 => exact qq179);(case side2 => exact HC0.out);rintro e w' ⟨rfl,⟨nd,rfl⟩⟩;refine ⟨_,rfl,?_⟩) | ((with_reducible refine gate_callee (f:=21) rfl ?_);refine goesL_ (some 25) rfl rfl Try.func21 (by kernel_rfl) rfl #[.slice A0 l0.length c0] rfl qq177 ?_;(with_reducible refine (spec_DrawSlowestDays.calls k _ _ l0 t698 t699 t700 t703 _ ?side1 ?side2 A4.out).mono ?_);(case side1 => exact qq179);(case side2 => exact HC0.out);rintro e w7 ⟨v701,rfl,ho0,hb⟩;refine ⟨_,rfl,?_⟩;have HO702:=am (Kd.R_lower ho0 (below_size qq189));replace HB:=am (below_step qq189 hb);(try clear hb);(try clear hb2);(try clear hk);(try clear hi);(try clear ho0)) | ((with_reducible refine gate_dst (N:=3) rfl ?_);(try (refine gate_guard (by rfl) ?_;dsimp only));refine box_event ?hg (N:=3) ?hd (cs:=#[.int .i64 0,.int .i64 0]) (t:=37) ?hr ?_;(case hd => rfl);(case hg => rfl);(case hr => exact qq299);intro gb704 hg w8 hbox hb;replace HO702:=am (Kd.R_below qq256 hb);have BK704:=am (hbox);have GW704:=am ((qq153 : w.heap.size ≤ gb704));have GE704:=am ((qq153 : w.heap.size ≤ gb704));replace HB:=am (below_step qq189 hb);clear hb hbox hg;obtain ⟨hcz9_0,hcz9_1,hfz9_0,hfz9_1⟩:=bcl2 BK704.out;obtain ⟨Ao10,co10,eo10⟩:=Kd.R_slice HO702.out;subst eo10) | ((with_reducible refine gate_callee (f:=22) rfl ?_);refine goesL_ (some 32) rfl rfl Try.func22 (by kernel_rfl) rfl #[.agg #[.int .i64 t698,.int .i64 t699],.slice Ao10 t700.length co10,.int .i64 t703] rfl qq177 ?_;(with_reducible refine (impl_SlowestDays.calls k t698 t699 _ _ t700 t703 t705 _ ?side1 ?side2 A5.out).mono ?_);(case side1 => refine (Kd.R_reads' (e:=4) (base:=w.heap.size) (ok:=fun k_ => True) (n:=t700.length) (c:=co10) ?_).2.2;exact qq16);(case side2 => exact (Kd.R_reads' HO702.out).2.1);rintro e w11 ⟨rfl,hb⟩;refine ⟨_,rfl,?_⟩;replace HO702:=am (Kd.R_below qq16 hb);replace BK704:=am (blk_below (g:=gb704) (o:=.cells #[.int .i64 t698,.int .i64 t699] 37 (0,0)) (by (with_reducible repeat (first | refine dN ?_ _ | refine dD ?_ | refine dA ?_ _));refine blk_put (cs:=#[.int .i64 t698,.int .i64 0]) ?_ 1 _ rfl;(with_reducible repeat (first | refine dN ?_ _ | refine dD ?_ | refine dA ?_ _));refine blk_put (cs:=#[.int .i64 0,.int .i64 0]) ?_ 0 _ rfl;(with_reducible repeat (first | refine dN ?_ _ | refine dD ?_ | refine dA ?_ _));exact BK704.out) hb);replace HB:=am (below_step qq154 hb);(try clear hb);(try clear hb2);(try clear hk);(try clear hi)))
  (try simp only [Act.put,sA,s0,s1])
  go_cut [42] (fun v42 wc => ∃ (kq : Nat) (x42_5 : Bool),v42 = .bool x42_5 ∧ Aside0 (laws_FnWeathers.j0 kq l0 x42_5 = some r) ∧ Aside0 (kq ≤ k) ∧ Aside0 (wc.heap[gb704]? = some (.cells #[.int .i64 t698,.int .i64 t699] 37 (0,0))) ∧ Aside0 (Below w.heap.size w wc))
  case first =>
   have H:=HC6.out;clear HC6
   by_cases c12 : t705 ≥ 0
   ·rw [if_pos c12] at H;have c12b0 : decide (0 ≤ t705) = true:=decide_eq_true c12;clear c12;(first | rw [c12b0] | (simp only [i64_w,i32_w];rw [c12b0]) | skip);replace H:=bS.mp H;obtain ⟨t706,A130,H⟩:=H;replace H : (laws_FnWeathers.j0 k l0 (t705 != t706)) = some r:=H;have A13:=am A130;clear A130;have H':=am H;clear H;obtain ⟨hcz14_0,hcz14_1,hfz14_0,hfz14_1⟩:=bcl2 BK704.out;go_wp2_with (first | (go_at_call 23;(with_reducible refine (impl_WorstDays.calls k t698 t699 (fun k_ => some k_ = (.slice Ao10 t700.length co10 : Value).ownBlock) _ _ t700 t703 t706 _ ?side1 A13.out).mono ?_);(case side1 => exact Kd.R_V (Kd.R_tight rfl (Kd.R_types (HO702.out) BK704.out (by decide))));rintro e w15 ⟨rfl,hb⟩;replace HO702:=am (Kd.R_below qq256 hb);replace BK704:=am (blk_below (g:=gb704) (o:=.cells #[.int .i64 t698,.int .i64 t699] 37 (0,0)) qq197 hb);replace HB:=am (below_step qq154 hb);(try clear hb);(try clear hb2);(try clear hk);(try clear hi)))
    go_meet
    case rel => exact ⟨_,((t705 != t706)),qq298,H',⟨qq301⟩,⟨qq197⟩,⟨qq154⟩⟩
   ·rw [if_neg c12] at H;have c12b0 : decide (0 ≤ t705) = false:=decide_eq_false c12;clear c12;(first | rw [c12b0] | (simp only [i64_w,i32_w];rw [c12b0]) | skip);have H':=am H;clear H;go_wp2
    go_meet
    case rel => exact ⟨_,(false),qq298,H',⟨qq301⟩,⟨qq197⟩,⟨qq154⟩⟩
  case rest =>
   clear HC6
   try clear c1
   try clear c2
   try clear p2
   try clear c3
   try clear c4
   try clear c11
   try clear c12
   try clear c12b0
   try clear hcz14_0
   try clear hcz14_1
   try clear hcz9_0
   try clear hcz9_1
   try clear hfz14_0
   try clear hfz14_1
   try clear hfz9_0
   try clear hfz9_1
   obtain ⟨kq,x42_5,rfl,HA,HJ5,BK704,HB⟩:=hcut
   cases kq with
   | zero => exact absurd HA.out (by simp [laws_FnWeathers.j0])
   | succ kj5 =>
    have H:=HA.out;clear HA;simp only [laws_FnWeathers.j0] at H
    by_cases c16 : x42_5 = true
    ·subst c16;have H1 : (some false) = some r:=by rw [if_pos rfl] at H;exact H
     clear H;have H:=H1;clear H1;obtain rfl:=Option.some.inj H;go_wp2
     go_ret
     exact ⟨qq244,qq154⟩
    ·replace c16:=Bool.eq_false_iff.mpr c16;subst c16;have H1 : ((spec_DrawCountWeathers.f kj5 l0).bind fun bt707 => ((impl_CountWeathers.f kj5 bt707.1 bt707.2.1 bt707.2.2.1 bt707.2.2.2).bind fun t714 => ((impl_IsRule.f bt707.1 bt707.2.1).bind fun t715 => (if t715 = true then (if bt707.2.2.2 ≥ 0 then (if bt707.2.2.2 ≤ 10 then (if t714 < 1 then (laws_FnWeathers.j1 kj5 l0 true) else (if 0 ≤ bt707.2.2.2 then (laws_FnWeathers.j1 kj5 l0 (decide (t714 > (shl .i64 1 bt707.2.2.2)))) else (none))) else (laws_FnWeathers.j1 kj5 l0 false)) else (laws_FnWeathers.j1 kj5 l0 false)) else (laws_FnWeathers.j1 kj5 l0 false))))) = some r:=by rw [if_neg (show ¬ (false = true) by decide)] at H;exact H
     clear H;have H:=H1;clear H1;replace H:=bS.mp H;obtain ⟨⟨t707,t708,t709,t712⟩,A170,H⟩:=H;replace H : ((impl_CountWeathers.f kj5 t707 t708 t709 t712).bind fun t714 => ((impl_IsRule.f t707 t708).bind fun t715 => (if t715 = true then (if t712 ≥ 0 then (if t712 ≤ 10 then (if t714 < 1 then (laws_FnWeathers.j1 kj5 l0 true) else (if 0 ≤ t712 then (laws_FnWeathers.j1 kj5 l0 (decide (t714 > (shl .i64 1 t712)))) else (none))) else (laws_FnWeathers.j1 kj5 l0 false)) else (laws_FnWeathers.j1 kj5 l0 false)) else (laws_FnWeathers.j1 kj5 l0 false)))) = some r:=H;have A17:=am A170;clear A170;replace H:=bS.mp H;obtain ⟨t714,A180,H⟩:=H;replace H : ((impl_IsRule.f t707 t708).bind fun t715 => (if t715 = true then (if t712 ≥ 0 then (if t712 ≤ 10 then (if t714 < 1 then (laws_FnWeathers.j1 kj5 l0 true) else (if 0 ≤ t712 then (laws_FnWeathers.j1 kj5 l0 (decide (t714 > (shl .i64 1 t712)))) else (none))) else (laws_FnWeathers.j1 kj5 l0 false)) else (laws_FnWeathers.j1 kj5 l0 false)) else (laws_FnWeathers.j1 kj5 l0 false))) = some r:=H;have A18:=am A180;clear A180;have HC19:=am H;clear H
     go_upto_region 9 with (first | ((with_reducible refine gate_callee (f:=24) rfl ?_);refine goesL_ (some 45) rfl rfl Try.func24 (by kernel_rfl) rfl #[.slice A0 l0.length c0] rfl qq177 ?_;(with_reducible refine (spec_DrawCountWeathers.calls kj5 _ _ l0 t707 t708 t709 t712 _ ?side1 ?side2 A17.out).mono ?_);(case side1 => exact qq143);(case side2 => exact HC0.out);rintro e w20 ⟨v710,rfl,ho0,hb⟩;refine ⟨_,rfl,?_⟩;have HO711:=am (Kd.R_lower ho0 (below_size qq154));replace BK704:=am (blk_below (g:=gb704) (o:=.cells #[.int .i64 t698,.int .i64 t699] 37 (0,0)) qq197 hb);replace HB:=am (below_step qq154 hb);(try clear hb);(try clear hb2);(try clear hk);(try clear hi);(try clear ho0)) | ((with_reducible refine gate_dst (N:=7) rfl ?_);(try (refine gate_guard (by rfl) ?_;dsimp only));refine box_event ?hg (N:=7) ?hd (cs:=#[.int .i64 0,.int .i64 0]) (t:=37) ?hr ?_;(case hd => rfl);(case hg => rfl);(case hr => exact qq299);intro gb713 hg w21 hbox hb;replace HO711:=am (Kd.R_below qq255 hb);have BK713:=am (hbox);have GW713:=am ((qq123 : w.heap.size ≤ gb713));have GE713:=am ((qq123 : w.heap.size ≤ gb713));replace HB:=am (below_step qq154 hb);have NB704_713:=am ((qq95 : gb704 ≠ gb713));have NB713_704:=am ((qq99 : gb713 ≠ gb704));replace BK704:=am (blk_below (g:=gb704) (o:=.cells #[.int .i64 t698,.int .i64 t699] 37 (0,0)) qq197 hb);clear hb hbox hg;have hnb22:=NB713_704.out;have hnc22:=NB704_713.out;obtain ⟨hcz23_0,hcz23_1,hfz23_0,hfz23_1⟩:=bcl2 BK713.out;obtain ⟨Ao24,co24,eo24⟩:=Kd.R_slice HO711.out;subst eo24) | ((with_reducible refine gate_callee (f:=25) rfl ?_);refine goesL_ (some 52) rfl rfl Try.func25 (by kernel_rfl) rfl #[.agg #[.int .i64 t707,.int .i64 t708],.slice Ao24 t709.length co24,.int .i64 t712] rfl qq177 ?_;(with_reducible refine (impl_CountWeathers.calls kj5 t707 t708 _ _ t709 t712 t714 _ ?side1 ?side2 A18.out).mono ?_);(case side1 => refine (Kd.R_reads' (e:=4) (base:=w.heap.size) (ok:=fun k_ => True) (n:=t709.length) (c:=co24) ?_).2.2;exact qq15);(case side2 => exact (Kd.R_reads' HO711.out).2.1);rintro e w25 ⟨rfl,hb⟩;refine ⟨_,rfl,?_⟩;replace HO711:=am (Kd.R_below qq15 hb);replace BK704:=am (blk_below (g:=gb704) (o:=.cells #[.int .i64 t698,.int .i64 t699] 37 (0,0)) (by (with_reducible repeat (first | refine dN ?_ _ | refine dD ?_ | refine dA ?_ _));refine blk_far ?_ NB704_713.out _;(with_reducible repeat (first | refine dN ?_ _ | refine dD ?_ | refine dA ?_ _));refine blk_far ?_ NB704_713.out _;(with_reducible repeat (first | refine dN ?_ _ | refine dD ?_ | refine dA ?_ _));exact BK704.out) hb);replace BK713:=am (blk_below (g:=gb713) (o:=.cells #[.int .i64 t707,.int .i64 t708] 37 (0,0)) (by (with_reducible repeat (first | refine dN ?_ _ | refine dD ?_ | refine dA ?_ _));refine blk_put (cs:=#[.int .i64 t707,.int .i64 0]) ?_ 1 _ rfl;(with_reducible repeat (first | refine dN ?_ _ | refine dD ?_ | refine dA ?_ _));refine blk_put (cs:=#[.int .i64 0,.int .i64 0]) ?_ 0 _ rfl;(with_reducible repeat (first | refine dN ?_ _ | refine dD ?_ | refine dA ?_ _));exact BK713.out) hb);replace HB:=am (below_step qq127 hb);(try clear hb);(try clear hb2);(try clear hk);(try clear hi)))
     (try simp only [Act.put,sA,s0,s1])
     go_cut [72] (fun v72 wc => ∃ (kq : Nat) (x72_18 : Bool),v72 = .bool x72_18 ∧ Aside0 (laws_FnWeathers.j1 kq l0 x72_18 = some r) ∧ Aside0 (kq ≤ kj5) ∧ Aside0 (wc.heap[gb704]? = some (.cells #[.int .i64 t698,.int .i64 t699] 37 (0,0))) ∧ Aside0 (wc.heap[gb713]? = some (.cells #[.int .i64 t707,.int .i64 t708] 37 (0,0))) ∧ Aside0 (Below w.heap.size w wc))
     case first =>
      have H:=HC19.out;clear HC19;replace H:=bS.mp H;obtain ⟨t715,A260,H⟩:=H;replace H : (if t715 = true then (if t712 ≥ 0 then (if t712 ≤ 10 then (if t714 < 1 then (laws_FnWeathers.j1 kj5 l0 true) else (if 0 ≤ t712 then (laws_FnWeathers.j1 kj5 l0 (decide (t714 > (shl .i64 1 t712)))) else (none))) else (laws_FnWeathers.j1 kj5 l0 false)) else (laws_FnWeathers.j1 kj5 l0 false)) else (laws_FnWeathers.j1 kj5 l0 false)) = some r:=H;have A26:=am A260;clear A260
      by_cases c27 : t715 = true
      ·subst c27;have H1 : (if t712 ≥ 0 then (if t712 ≤ 10 then (if t714 < 1 then (laws_FnWeathers.j1 kj5 l0 true) else (if 0 ≤ t712 then (laws_FnWeathers.j1 kj5 l0 (decide (t714 > (shl .i64 1 t712)))) else (none))) else (laws_FnWeathers.j1 kj5 l0 false)) else (laws_FnWeathers.j1 kj5 l0 false)) = some r:=by rw [if_pos rfl] at H;exact H
       clear H;have H:=H1;clear H1
       by_cases c28 : t712 ≥ 0
       ·rw [if_pos c28] at H;have c28b0 : decide (0 ≤ t712) = true:=decide_eq_true c28;clear c28;(first | rw [c28b0] | (simp only [i64_w,i32_w];rw [c28b0]) | skip)
        by_cases c29 : t712 ≤ 10
        ·rw [if_pos c29] at H;have c29b0 : decide (t712 ≤ 10) = true:=decide_eq_true c29;clear c29
         by_cases c30 : t714 < 1
         ·rw [if_pos c30] at H;have c30b0 : decide (t714 < 1) = true:=decide_eq_true c30;clear c30;have H':=am H;clear H;have hnb31:=NB713_704.out;have hnc31:=NB704_713.out;obtain ⟨hcz32_0,hcz32_1,hfz32_0,hfz32_1⟩:=bcl2 BK713.out;go_wp2_with (first | ((with_reducible refine gate_callee (f:=26) rfl ?_);refine goesL_ (some 54) rfl rfl Try.func26 (by kernel_rfl) rfl #[.agg #[.int .i64 t707,.int .i64 t708]] rfl qq177 ?_;(with_reducible refine (impl_IsRule.calls t707 t708 true _ A26.out).mono ?_);rintro e w33 ⟨rfl,hb⟩;refine ⟨_,rfl,?_⟩;replace HO711:=am (Kd.R_below qq255 hb);replace BK704:=am (blk_below (g:=gb704) (o:=.cells #[.int .i64 t698,.int .i64 t699] 37 (0,0)) qq197 hb);replace BK713:=am (blk_below (g:=gb713) (o:=.cells #[.int .i64 t707,.int .i64 t708] 37 (0,0)) qq196 hb);replace HB:=am (below_step qq127 hb);(try clear hb);(try clear hb2);(try clear hk);(try clear hi)))
          go_meet
          case rel => exact ⟨_,(true),qq298,H',⟨qq295⟩,⟨qq197⟩,⟨qq196⟩,⟨qq127⟩⟩
         ·rw [if_neg c30] at H;have c30b0 : decide (t714 < 1) = false:=decide_eq_false c30;clear c30
          by_cases c34 : 0 ≤ t712
          ·rw [if_pos c34] at H;have c34b0:=eq_true c34;have c34b1 : decide (0 ≤ t712) = true:=decide_eq_true c34;clear c34;obtain ⟨ji35,hji35⟩ : ∃ j_ : Int,(shl .i64 1 t712) = j_:=⟨_,rfl⟩
           replace H : (laws_FnWeathers.j1 kj5 l0 (decide (t714 > (ji35)))) = some r:=by first | (rw [hji35] at H;exact H) | (simp only [hji35] at H ⊢;exact H)
           (try rw [hji35] at A26);have hji35_ : (IntKind.i64.wrap (1 * 2 ^ min t712.toNat 64)) = ji35:=hji35;have hji35z : t712 ≤ 64 → (IntKind.i64.wrap (1 * 2 ^ t712.toNat)) = ji35:=shl_small hji35;have hji35u : (IntKind.i64.wrap (2 ^ min t712.toNat 64)) = ji35:=by have h_:=hji35_;rw [Int.one_mul] at h_;exact h_
           have hji35v : t712 ≤ 64 → (IntKind.i64.wrap (2 ^ t712.toNat)) = ji35:=fun hle_ => by have h_:=hji35z hle_;rw [Int.one_mul] at h_;exact h_
           have hji35y : (wrap64 (1 * 2 ^ min t712.toNat 64)) = ji35:=(i64_w _).symm.trans hji35_;have hji35x : t712 ≤ 64 → (wrap64 (1 * 2 ^ t712.toNat)) = ji35:=fun h_ => (i64_w _).symm.trans (hji35z h_)
           have H':=am H;clear H;have hnb36:=NB713_704.out;have hnc36:=NB704_713.out;obtain ⟨hcz37_0,hcz37_1,hfz37_0,hfz37_1⟩:=bcl2 BK713.out;go_wp2_with (first | ((with_reducible refine gate_callee (f:=26) rfl ?_);refine goesL_ (some 54) rfl rfl Try.func26 (by kernel_rfl) rfl #[.agg #[.int .i64 t707,.int .i64 t708]] rfl qq177 ?_;(with_reducible refine (impl_IsRule.calls t707 t708 true _ A26.out).mono ?_);rintro e w38 ⟨rfl,hb⟩;refine ⟨_,rfl,?_⟩;replace HO711:=am (Kd.R_below qq255 hb);replace BK704:=am (blk_below (g:=gb704) (o:=.cells #[.int .i64 t698,.int .i64 t699] 37 (0,0)) qq197 hb);replace BK713:=am (blk_below (g:=gb713) (o:=.cells #[.int .i64 t707,.int .i64 t708] 37 (0,0)) qq196 hb);replace HB:=am (below_step qq127 hb);(try clear hb);(try clear hb2);(try clear hk);(try clear hi)))
           go_meet
           case rel => exact ⟨_,(decide (t714 > (ji35))),(by first | rfl | (simp;done) | (simp only [← hji35] <;> (first | rfl | simp)) | (simp [*];done)),H',⟨qq295⟩,⟨qq197⟩,⟨qq196⟩,⟨qq127⟩⟩
          ·rw [if_neg c34] at H;exact absurd H (by simp)
        ·rw [if_neg c29] at H;have c29b0 : decide (t712 ≤ 10) = false:=decide_eq_false c29;clear c29;have H':=am H;clear H;have hnb39:=NB713_704.out;have hnc39:=NB704_713.out;obtain ⟨hcz40_0,hcz40_1,hfz40_0,hfz40_1⟩:=bcl2 BK713.out;go_wp2_with (first | ((with_reducible refine gate_callee (f:=26) rfl ?_);refine goesL_ (some 54) rfl rfl Try.func26 (by kernel_rfl) rfl #[.agg #[.int .i64 t707,.int .i64 t708]] rfl qq177 ?_;(with_reducible refine (impl_IsRule.calls t707 t708 true _ A26.out).mono ?_);rintro e w41 ⟨rfl,hb⟩;refine ⟨_,rfl,?_⟩;replace HO711:=am (Kd.R_below qq255 hb);replace BK704:=am (blk_below (g:=gb704) (o:=.cells #[.int .i64 t698,.int .i64 t699] 37 (0,0)) qq197 hb);replace BK713:=am (blk_below (g:=gb713) (o:=.cells #[.int .i64 t707,.int .i64 t708] 37 (0,0)) qq196 hb);replace HB:=am (below_step qq127 hb);(try clear hb);(try clear hb2);(try clear hk);(try clear hi)))
         go_meet
         case rel => exact ⟨_,(false),qq298,H',⟨qq295⟩,⟨qq197⟩,⟨qq196⟩,⟨qq127⟩⟩
       ·rw [if_neg c28] at H;have c28b0 : decide (0 ≤ t712) = false:=decide_eq_false c28;clear c28;(first | rw [c28b0] | (simp only [i64_w,i32_w];rw [c28b0]) | skip);have H':=am H;clear H;have hnb42:=NB713_704.out;have hnc42:=NB704_713.out;obtain ⟨hcz43_0,hcz43_1,hfz43_0,hfz43_1⟩:=bcl2 BK713.out;go_wp2_with (first | ((with_reducible refine gate_callee (f:=26) rfl ?_);refine goesL_ (some 54) rfl rfl Try.func26 (by kernel_rfl) rfl #[.agg #[.int .i64 t707,.int .i64 t708]] rfl qq177 ?_;(with_reducible refine (impl_IsRule.calls t707 t708 true _ A26.out).mono ?_);rintro e w44 ⟨rfl,hb⟩;refine ⟨_,rfl,?_⟩;replace HO711:=am (Kd.R_below qq255 hb);replace BK704:=am (blk_below (g:=gb704) (o:=.cells #[.int .i64 t698,.int .i64 t699] 37 (0,0)) qq197 hb);replace BK713:=am (blk_below (g:=gb713) (o:=.cells #[.int .i64 t707,.int .i64 t708] 37 (0,0)) qq196 hb);replace HB:=am (below_step qq127 hb);(try clear hb);(try clear hb2);(try clear hk);(try clear hi)))
        go_meet
        case rel => exact ⟨_,(false),qq298,H',⟨qq295⟩,⟨qq197⟩,⟨qq196⟩,⟨qq127⟩⟩
      ·replace c27:=Bool.eq_false_iff.mpr c27;subst c27;have H1 : (laws_FnWeathers.j1 kj5 l0 false) = some r:=by rw [if_neg (show ¬ (false = true) by decide)] at H;exact H
       clear H;have H:=H1;clear H1;have H':=am H;clear H;have hnb45:=NB713_704.out;have hnc45:=NB704_713.out;obtain ⟨hcz46_0,hcz46_1,hfz46_0,hfz46_1⟩:=bcl2 BK713.out;go_wp2_with (first | ((with_reducible refine gate_callee (f:=26) rfl ?_);refine goesL_ (some 54) rfl rfl Try.func26 (by kernel_rfl) rfl #[.agg #[.int .i64 t707,.int .i64 t708]] rfl qq177 ?_;(with_reducible refine (impl_IsRule.calls t707 t708 false _ A26.out).mono ?_);rintro e w47 ⟨rfl,hb⟩;refine ⟨_,rfl,?_⟩;replace HO711:=am (Kd.R_below qq255 hb);replace BK704:=am (blk_below (g:=gb704) (o:=.cells #[.int .i64 t698,.int .i64 t699] 37 (0,0)) qq197 hb);replace BK713:=am (blk_below (g:=gb713) (o:=.cells #[.int .i64 t707,.int .i64 t708] 37 (0,0)) qq196 hb);replace HB:=am (below_step qq127 hb);(try clear hb);(try clear hb2);(try clear hk);(try clear hi)))
       go_meet
       case rel => exact ⟨_,(false),qq298,H',⟨qq295⟩,⟨qq197⟩,⟨qq196⟩,⟨qq127⟩⟩
     case rest =>
      clear HC19
      try clear c1
      try clear c2
      try clear p2
      try clear c3
      try clear c4
      try clear p6
      try clear c11
      try clear c12
      try clear c12b0
      try clear c16
      try clear c21
      try clear c22
      try clear c24
      try clear c25
      try clear c26
      try clear c27
      try clear c28
      try clear c28b0
      try clear c29
      try clear c29b0
      try clear c30
      try clear c30b0
      try clear c31
      try clear c34
      try clear c34b0
      try clear c34b1
      try clear c36
      try clear c39
      try clear c42
      try clear c45
      try clear hcz14_0
      try clear hcz14_1
      try clear hcz23_0
      try clear hcz23_1
      try clear hcz32_0
      try clear hcz32_1
      try clear hcz37_0
      try clear hcz37_1
      try clear hcz40_0
      try clear hcz40_1
      try clear hcz43_0
      try clear hcz43_1
      try clear hcz46_0
      try clear hcz46_1
      try clear hcz9_0
      try clear hcz9_1
      try clear hfz14_0
      try clear hfz14_1
      try clear hfz23_0
      try clear hfz23_1
      try clear hfz32_0
      try clear hfz32_1
      try clear hfz37_0
      try clear hfz37_1
      try clear hfz40_0
      try clear hfz40_1
      try clear hfz43_0
      try clear hfz43_1
      try clear hfz46_0
      try clear hfz46_1
      try clear hfz9_0
      try clear hfz9_1
      try clear p2
      obtain ⟨kq,x72_18,rfl,HA,HJ18,BK704,BK713,HB⟩:=hcut
      cases kq with
      | zero => exact absurd HA.out (by simp [laws_FnWeathers.j1])
      | succ kj18 =>
       have H:=HA.out;clear HA;simp only [laws_FnWeathers.j1] at H
       by_cases c48 : x72_18 = true
       ·subst c48;have H1 : (some false) = some r:=by rw [if_pos rfl] at H;exact H
        clear H;have H:=H1;clear H1;obtain rfl:=Option.some.inj H;go_wp2
        go_ret
        exact ⟨qq244,qq127⟩
       ·replace c48:=Bool.eq_false_iff.mpr c48;subst c48;have H1 : ((spec_DrawLongestStorm.f kj18 l0).bind fun bt716 => ((impl_LongestStorm.f kj18 bt716.1 bt716.2.1 bt716.2.2).bind fun t722 => ((impl_IsRule.f bt716.1 bt716.2.1).bind fun t723 => (if t723 = true then (if t722 > bt716.1 then (laws_FnWeathers.j2 kj18 l0 true) else (laws_FnWeathers.j2 kj18 l0 (decide (t722 < 0)))) else (laws_FnWeathers.j2 kj18 l0 (decide (t722 < 0))))))) = some r:=by rw [if_neg (show ¬ (false = true) by decide)] at H;exact H
        clear H;have H:=H1;clear H1;replace H:=bS.mp H;obtain ⟨⟨t716,t717,t718⟩,A490,H⟩:=H;replace H : ((impl_LongestStorm.f kj18 t716 t717 t718).bind fun t722 => ((impl_IsRule.f t716 t717).bind fun t723 => (if t723 = true then (if t722 > t716 then (laws_FnWeathers.j2 kj18 l0 true) else (laws_FnWeathers.j2 kj18 l0 (decide (t722 < 0)))) else (laws_FnWeathers.j2 kj18 l0 (decide (t722 < 0)))))) = some r:=H;have A49:=am A490;clear A490;replace H:=bS.mp H;obtain ⟨t722,A500,H⟩:=H;replace H : ((impl_IsRule.f t716 t717).bind fun t723 => (if t723 = true then (if t722 > t716 then (laws_FnWeathers.j2 kj18 l0 true) else (laws_FnWeathers.j2 kj18 l0 (decide (t722 < 0)))) else (laws_FnWeathers.j2 kj18 l0 (decide (t722 < 0))))) = some r:=H;have A50:=am A500;clear A500;have HC51:=am H;clear H
        go_upto_region 13 with (first | ((with_reducible refine gate_callee (f:=27) rfl ?_);refine goesL_ (some 75) rfl rfl Try.func27 (by kernel_rfl) rfl #[.slice A0 l0.length c0] rfl qq177 ?_;(with_reducible refine (spec_DrawLongestStorm.calls kj18 _ _ l0 t716 t717 t718 _ ?side1 ?side2 A49.out).mono ?_);(case side1 => exact qq143);(case side2 => exact HC0.out);rintro e w52 ⟨v719,rfl,ho0,hb⟩;refine ⟨_,rfl,?_⟩;have HO720:=am (Kd.R_lower ho0 (below_size qq127));replace BK704:=am (blk_below (g:=gb704) (o:=.cells #[.int .i64 t698,.int .i64 t699] 37 (0,0)) qq197 hb);replace BK713:=am (blk_below (g:=gb713) (o:=.cells #[.int .i64 t707,.int .i64 t708] 37 (0,0)) qq196 hb);replace HB:=am (below_step qq127 hb);(try clear hb);(try clear hb2);(try clear hk);(try clear hi);(try clear ho0)) | ((with_reducible refine gate_dst (N:=11) rfl ?_);(try (refine gate_guard (by rfl) ?_;dsimp only));refine box_event ?hg (N:=11) ?hd (cs:=#[.int .i64 0,.int .i64 0]) (t:=37) ?hr ?_;(case hd => rfl);(case hg => rfl);(case hr => exact qq299);intro gb721 hg w53 hbox hb;replace HO720:=am (Kd.R_below qq254 hb);have BK721:=am (hbox);have GW721:=am ((qq101 : w.heap.size ≤ gb721));have GE721:=am ((qq101 : w.heap.size ≤ gb721));replace HB:=am (below_step qq127 hb);have NB704_721:=am ((qq95 : gb704 ≠ gb721));have NB721_704:=am ((qq99 : gb721 ≠ gb704));replace BK704:=am (blk_below (g:=gb704) (o:=.cells #[.int .i64 t698,.int .i64 t699] 37 (0,0)) qq197 hb);have NB713_721:=am ((qq94 : gb713 ≠ gb721));have NB721_713:=am ((qq98 : gb721 ≠ gb713));replace BK713:=am (blk_below (g:=gb713) (o:=.cells #[.int .i64 t707,.int .i64 t708] 37 (0,0)) qq196 hb);clear hb hbox hg;have hnb54:=NB721_704.out;have hnc54:=NB704_721.out;have hnb55:=NB721_713.out;have hnc55:=NB713_721.out;obtain ⟨hcz56_0,hcz56_1,hfz56_0,hfz56_1⟩:=bcl2 BK721.out) | ((with_reducible refine gate_store (t:=37) (p:=11) rfl ?_);refine store_event (t:=37) (p:=11) (v:=?vo_w57) (w1:=((w53.setCell ⟨gb721,0,none⟩ (.int .i64 t716)).setCell ⟨gb721,1,none⟩ (.int .i64 t717))) ?hg ?ho ?hn ?hr ?_;(case ho => rfl);(case hg => rfl);(case hn => rfl);(case hr => exact qq299);intro w57 hw;replace HO720 : Aside0 (Kd.R Kd.bool 4 w57 w.heap.size (fun _ => True) v719 t718):=⟨(by rw [hw];exact (by (with_reducible repeat (first | apply kA | apply kN | apply kD));exact Kd.R_mono (Kd.R_far (p:=⟨gb721,1,none⟩) (Kd.R_far (p:=⟨gb721,0,none⟩) (Kd.R_types HO720.out BK721.out (by decide)) (fun _ hk => hk.2) (.int .i64 t716)) (fun _ hk => hk.2) (.int .i64 t717)) (fun _ hk => trivial)))⟩;replace BK704 : Aside0 (w57.heap[gb704]? = some (.cells #[.int .i64 t698,.int .i64 t699] 37 (0,0))):=⟨(by rw [hw];exact (by (with_reducible repeat (first | refine dN ?_ _ | refine dD ?_ | refine dA ?_ _));refine blk_far ?_ NB704_721.out _;(with_reducible repeat (first | refine dN ?_ _ | refine dD ?_ | refine dA ?_ _));refine blk_far ?_ NB704_721.out _;(with_reducible repeat (first | refine dN ?_ _ | refine dD ?_ | refine dA ?_ _));exact BK704.out))⟩;replace BK713 : Aside0 (w57.heap[gb713]? = some (.cells #[.int .i64 t707,.int .i64 t708] 37 (0,0))):=⟨(by rw [hw];exact (by (with_reducible repeat (first | refine dN ?_ _ | refine dD ?_ | refine dA ?_ _));refine blk_far ?_ NB713_721.out _;(with_reducible repeat (first | refine dN ?_ _ | refine dD ?_ | refine dA ?_ _));refine blk_far ?_ NB713_721.out _;(with_reducible repeat (first | refine dN ?_ _ | refine dD ?_ | refine dA ?_ _));exact BK713.out))⟩;replace BK721 : Aside0 (w57.heap[gb721]? = some (.cells #[.int .i64 t716,.int .i64 t717] 37 (0,0))):=⟨(by rw [hw];exact (by (with_reducible repeat (first | refine dN ?_ _ | refine dD ?_ | refine dA ?_ _));refine blk_put (cs:=#[.int .i64 t716,.int .i64 0]) ?_ 1 _ rfl;(with_reducible repeat (first | refine dN ?_ _ | refine dD ?_ | refine dA ?_ _));refine blk_put (cs:=#[.int .i64 0,.int .i64 0]) ?_ 0 _ rfl;(with_reducible repeat (first | refine dN ?_ _ | refine dD ?_ | refine dA ?_ _));exact BK721.out))⟩;replace HB : Aside0 (Below w.heap.size w w57):=⟨(by rw [hw];exact qq103)⟩;clear hw;obtain ⟨hcz58_0,hcz58_1,hfz58_0,hfz58_1⟩:=bcl2 BK721.out;obtain ⟨Ao59,co59,eo59⟩:=Kd.R_slice HO720.out;subst eo59) | ((with_reducible refine gate_callee (f:=28) rfl ?_);refine goesL_ (some 80) rfl rfl Try.func28 (by kernel_rfl) rfl #[.agg #[.int .i64 t716,.int .i64 t717],.slice Ao59 t718.length co59] rfl qq177 ?_;(with_reducible refine (impl_LongestStorm.calls kj18 t716 t717 (fun k_ => some k_ = (.slice Ao59 t718.length co59 : Value).ownBlock) _ _ t718 t722 _ ?side1 A50.out).mono ?_);(case side1 => exact Kd.R_V (Kd.R_tight rfl (Kd.R_types (Kd.R_types (Kd.R_types (HO720.out) BK704.out (by decide)) BK713.out (by decide)) BK721.out (by decide))));rintro e w60 ⟨rfl,hb⟩;refine ⟨_,rfl,?_⟩;replace HO720:=am (Kd.R_below qq254 hb);replace BK704:=am (blk_below (g:=gb704) (o:=.cells #[.int .i64 t698,.int .i64 t699] 37 (0,0)) qq197 hb);replace BK713:=am (blk_below (g:=gb713) (o:=.cells #[.int .i64 t707,.int .i64 t708] 37 (0,0)) qq196 hb);replace BK721:=am (blk_below (g:=gb721) (o:=.cells #[.int .i64 t716,.int .i64 t717] 37 (0,0)) qq195 hb);replace HB:=am (below_step qq103 hb);(try clear hb);(try clear hb2);(try clear hk);(try clear hi)))
        (try simp only [Act.put,sA,s0,s1])
        go_cut [92] (fun v92 wc => ∃ (kq : Nat) (x92_50 : Bool),v92 = .bool x92_50 ∧ Aside0 (laws_FnWeathers.j2 kq l0 x92_50 = some r) ∧ Aside0 (kq ≤ kj18) ∧ Aside0 (wc.heap[gb704]? = some (.cells #[.int .i64 t698,.int .i64 t699] 37 (0,0))) ∧ Aside0 (wc.heap[gb713]? = some (.cells #[.int .i64 t707,.int .i64 t708] 37 (0,0))) ∧ Aside0 (wc.heap[gb721]? = some (.cells #[.int .i64 t716,.int .i64 t717] 37 (0,0))) ∧ Aside0 (Below w.heap.size w wc))
        case first =>
         have H:=HC51.out;clear HC51;replace H:=bS.mp H;obtain ⟨t723,A610,H⟩:=H;replace H : (if t723 = true then (if t722 > t716 then (laws_FnWeathers.j2 kj18 l0 true) else (laws_FnWeathers.j2 kj18 l0 (decide (t722 < 0)))) else (laws_FnWeathers.j2 kj18 l0 (decide (t722 < 0)))) = some r:=H;have A61:=am A610;clear A610
         by_cases c62 : t723 = true
         ·subst c62;have H1 : (if t722 > t716 then (laws_FnWeathers.j2 kj18 l0 true) else (laws_FnWeathers.j2 kj18 l0 (decide (t722 < 0)))) = some r:=by rw [if_pos rfl] at H;exact H
          clear H;have H:=H1;clear H1
          by_cases c63 : t722 > t716
          ·rw [if_pos c63] at H;have c63b0 : decide (t716 < t722) = true:=decide_eq_true c63;clear c63;(first | rw [c63b0] | (simp only [i64_w,i32_w];rw [c63b0]) | skip);have H':=am H;clear H;have hnb64:=NB721_704.out;have hnc64:=NB704_721.out;have hnb65:=NB721_713.out;have hnc65:=NB713_721.out;obtain ⟨hcz66_0,hcz66_1,hfz66_0,hfz66_1⟩:=bcl2 BK721.out;go_wp2_with (first | ((with_reducible refine gate_callee (f:=26) rfl ?_);refine goesL_ (some 82) rfl rfl Try.func26 (by kernel_rfl) rfl #[.agg #[.int .i64 t716,.int .i64 t717]] rfl qq177 ?_;(with_reducible refine (impl_IsRule.calls t716 t717 true _ A61.out).mono ?_);rintro e w67 ⟨rfl,hb⟩;refine ⟨_,rfl,?_⟩;replace HO720:=am (Kd.R_below qq254 hb);replace BK704:=am (blk_below (g:=gb704) (o:=.cells #[.int .i64 t698,.int .i64 t699] 37 (0,0)) qq197 hb);replace BK713:=am (blk_below (g:=gb713) (o:=.cells #[.int .i64 t707,.int .i64 t708] 37 (0,0)) qq196 hb);replace BK721:=am (blk_below (g:=gb721) (o:=.cells #[.int .i64 t716,.int .i64 t717] 37 (0,0)) qq195 hb);replace HB:=am (below_step qq103 hb);(try clear hb);(try clear hb2);(try clear hk);(try clear hi);obtain ⟨hcz68_0,hcz68_1,hfz68_0,hfz68_1⟩:=bcl2 BK721.out))
           go_meet
           case rel => exact ⟨_,(true),qq298,H',⟨qq291⟩,⟨qq197⟩,⟨qq196⟩,⟨qq195⟩,⟨qq103⟩⟩
          ·rw [if_neg c63] at H;have c63b0 : decide (t716 < t722) = false:=decide_eq_false c63;clear c63;(first | rw [c63b0] | (simp only [i64_w,i32_w];rw [c63b0]) | skip);have H':=am H;clear H;have hnb69:=NB721_704.out;have hnc69:=NB704_721.out;have hnb70:=NB721_713.out;have hnc70:=NB713_721.out;obtain ⟨hcz71_0,hcz71_1,hfz71_0,hfz71_1⟩:=bcl2 BK721.out;go_wp2_with (first | ((with_reducible refine gate_callee (f:=26) rfl ?_);refine goesL_ (some 82) rfl rfl Try.func26 (by kernel_rfl) rfl #[.agg #[.int .i64 t716,.int .i64 t717]] rfl qq177 ?_;(with_reducible refine (impl_IsRule.calls t716 t717 true _ A61.out).mono ?_);rintro e w72 ⟨rfl,hb⟩;refine ⟨_,rfl,?_⟩;replace HO720:=am (Kd.R_below qq254 hb);replace BK704:=am (blk_below (g:=gb704) (o:=.cells #[.int .i64 t698,.int .i64 t699] 37 (0,0)) qq197 hb);replace BK713:=am (blk_below (g:=gb713) (o:=.cells #[.int .i64 t707,.int .i64 t708] 37 (0,0)) qq196 hb);replace BK721:=am (blk_below (g:=gb721) (o:=.cells #[.int .i64 t716,.int .i64 t717] 37 (0,0)) qq195 hb);replace HB:=am (below_step qq103 hb);(try clear hb);(try clear hb2);(try clear hk);(try clear hi);obtain ⟨hcz73_0,hcz73_1,hfz73_0,hfz73_1⟩:=bcl2 BK721.out))
           go_meet
           case rel => exact ⟨_,(decide (t722 < 0)),qq298,H',⟨qq291⟩,⟨qq197⟩,⟨qq196⟩,⟨qq195⟩,⟨qq103⟩⟩
         ·replace c62:=Bool.eq_false_iff.mpr c62;subst c62;have H1 : (laws_FnWeathers.j2 kj18 l0 (decide (t722 < 0))) = some r:=by rw [if_neg (show ¬ (false = true) by decide)] at H;exact H
          clear H;have H:=H1;clear H1;have H':=am H;clear H;have hnb74:=NB721_704.out;have hnc74:=NB704_721.out;have hnb75:=NB721_713.out;have hnc75:=NB713_721.out;obtain ⟨hcz76_0,hcz76_1,hfz76_0,hfz76_1⟩:=bcl2 BK721.out;go_wp2_with (first | ((with_reducible refine gate_callee (f:=26) rfl ?_);refine goesL_ (some 82) rfl rfl Try.func26 (by kernel_rfl) rfl #[.agg #[.int .i64 t716,.int .i64 t717]] rfl qq177 ?_;(with_reducible refine (impl_IsRule.calls t716 t717 false _ A61.out).mono ?_);rintro e w77 ⟨rfl,hb⟩;refine ⟨_,rfl,?_⟩;replace HO720:=am (Kd.R_below qq254 hb);replace BK704:=am (blk_below (g:=gb704) (o:=.cells #[.int .i64 t698,.int .i64 t699] 37 (0,0)) qq197 hb);replace BK713:=am (blk_below (g:=gb713) (o:=.cells #[.int .i64 t707,.int .i64 t708] 37 (0,0)) qq196 hb);replace BK721:=am (blk_below (g:=gb721) (o:=.cells #[.int .i64 t716,.int .i64 t717] 37 (0,0)) qq195 hb);replace HB:=am (below_step qq103 hb);(try clear hb);(try clear hb2);(try clear hk);(try clear hi)))
          go_meet
          case rel => exact ⟨_,(decide (t722 < 0)),qq298,H',⟨qq291⟩,⟨qq197⟩,⟨qq196⟩,⟨qq195⟩,⟨qq103⟩⟩
        case rest =>
         clear HC51
         try clear c1
         try clear c2
         try clear p2
         try clear c3
         try clear c4
         try clear c5
         try clear c6
         try clear p6
         try clear c7
         try clear c11
         try clear c12
         try clear c12b0
         try clear c16
         try clear c21
         try clear c22
         try clear c24
         try clear c25
         try clear c26
         try clear c27
         try clear c28
         try clear c28b0
         try clear c29
         try clear c29b0
         try clear c30
         try clear c30b0
         try clear c31
         try clear c34
         try clear c34b0
         try clear c34b1
         try clear c36
         try clear c39
         try clear c42
         try clear c45
         try clear c48
         try clear c54
         try clear c55
         try clear c62
         try clear c63
         try clear c63b0
         try clear c64
         try clear p64
         try clear c65
         try clear c69
         try clear c70
         try clear c74
         try clear c75
         try clear hcz14_0
         try clear hcz14_1
         try clear hcz23_0
         try clear hcz23_1
         try clear hcz32_0
         try clear hcz32_1
         try clear hcz37_0
         try clear hcz37_1
         try clear hcz40_0
         try clear hcz40_1
         try clear hcz43_0
         try clear hcz43_1
         try clear hcz46_0
         try clear hcz46_1
         try clear hcz56_0
         try clear hcz56_1
         try clear hcz58_0
         try clear hcz58_1
         try clear hcz66_0
         try clear hcz66_1
         try clear hcz68_0
         try clear hcz68_1
         try clear hcz71_0
         try clear hcz71_1
         try clear hcz73_0
         try clear hcz73_1
         try clear hcz76_0
         try clear hcz76_1
         try clear hcz9_0
         try clear hcz9_1
         try clear hfz14_0
         try clear hfz14_1
         try clear hfz23_0
         try clear hfz23_1
         try clear hfz32_0
         try clear hfz32_1
         try clear hfz37_0
         try clear hfz37_1
         try clear hfz40_0
         try clear hfz40_1
         try clear hfz43_0
         try clear hfz43_1
         try clear hfz46_0
         try clear hfz46_1
         try clear hfz56_0
         try clear hfz56_1
         try clear hfz58_0
         try clear hfz58_1
         try clear hfz66_0
         try clear hfz66_1
         try clear hfz68_0
         try clear hfz68_1
         try clear hfz71_0
         try clear hfz71_1
         try clear hfz73_0
         try clear hfz73_1
         try clear hfz76_0
         try clear hfz76_1
         try clear hfz9_0
         try clear hfz9_1
         try clear p2
         try clear p6
         obtain ⟨kq,x92_50,rfl,HA,HJ50,BK704,BK713,BK721,HB⟩:=hcut
         cases kq with
         | zero => exact absurd HA.out (by simp [laws_FnWeathers.j2])
         | succ kj50 =>
          have H:=HA.out;clear HA;simp only [laws_FnWeathers.j2] at H
          by_cases c78 : x92_50 = true
          ·subst c78;have H1 : (some false) = some r:=by rw [if_pos rfl] at H;exact H
           clear H;have H:=H1;clear H1;obtain rfl:=Option.some.inj H;go_wp2
           go_ret
           exact ⟨qq244,qq103⟩
          ·replace c78:=Bool.eq_false_iff.mpr c78;subst c78;have H1 : ((spec_DrawThatKeep.f kj50 l0).bind fun bt724 => ((impl_ThatKeep.f kj50 bt724.1 bt724.2.1 bt724.2.2.1 bt724.2.2.2).bind fun t733 => ((spec_DrawFoodAfter.f kj50 l0).bind fun bt734 => ((impl_FoodAfter.f kj50 bt734.1 bt734.2.1 bt734.2.2.1 bt734.2.2.2.1 bt734.2.2.2.2).bind fun t744 => (if t733 ≥ 0 then (if t733 ≤ (bt724.2.2.2.length : Int) then (if t744 < 0 then (laws_FnWeathers.j3 kj50 true) else ((impl_NeedOf.f kj50 bt734.2.2.1).bind fun t745 => (laws_FnWeathers.j3 kj50 ((wrap64 (t744 + (wrap64 (bt734.2.2.2.2 * t745)))) == bt734.2.1)))) else (laws_FnWeathers.j3 kj50 false)) else (laws_FnWeathers.j3 kj50 false)))))) = some r:=by rw [if_neg (show ¬ (false = true) by decide)] at H;exact H
           clear H;have H:=H1;clear H1;replace H:=bS.mp H;obtain ⟨⟨t724,t725,t726,t729⟩,A790,H⟩:=H;replace H : ((impl_ThatKeep.f kj50 t724 t725 t726 t729).bind fun t733 => ((spec_DrawFoodAfter.f kj50 l0).bind fun bt734 => ((impl_FoodAfter.f kj50 bt734.1 bt734.2.1 bt734.2.2.1 bt734.2.2.2.1 bt734.2.2.2.2).bind fun t744 => (if t733 ≥ 0 then (if t733 ≤ (t729.length : Int) then (if t744 < 0 then (laws_FnWeathers.j3 kj50 true) else ((impl_NeedOf.f kj50 bt734.2.2.1).bind fun t745 => (laws_FnWeathers.j3 kj50 ((wrap64 (t744 + (wrap64 (bt734.2.2.2.2 * t745)))) == bt734.2.1)))) else (laws_FnWeathers.j3 kj50 false)) else (laws_FnWeathers.j3 kj50 false))))) = some r:=H;have A79:=am A790;clear A790;replace H:=bS.mp H;obtain ⟨t733,A800,H⟩:=H;replace H : ((spec_DrawFoodAfter.f kj50 l0).bind fun bt734 => ((impl_FoodAfter.f kj50 bt734.1 bt734.2.1 bt734.2.2.1 bt734.2.2.2.1 bt734.2.2.2.2).bind fun t744 => (if t733 ≥ 0 then (if t733 ≤ (t729.length : Int) then (if t744 < 0 then (laws_FnWeathers.j3 kj50 true) else ((impl_NeedOf.f kj50 bt734.2.2.1).bind fun t745 => (laws_FnWeathers.j3 kj50 ((wrap64 (t744 + (wrap64 (bt734.2.2.2.2 * t745)))) == bt734.2.1)))) else (laws_FnWeathers.j3 kj50 false)) else (laws_FnWeathers.j3 kj50 false)))) = some r:=H;have A80:=am A800;clear A800;replace H:=bS.mp H;obtain ⟨⟨t734,t735,t736,t739,t742⟩,A810,H⟩:=H;replace H : ((impl_FoodAfter.f kj50 t734 t735 t736 t739 t742).bind fun t744 => (if t733 ≥ 0 then (if t733 ≤ (t729.length : Int) then (if t744 < 0 then (laws_FnWeathers.j3 kj50 true) else ((impl_NeedOf.f kj50 t736).bind fun t745 => (laws_FnWeathers.j3 kj50 ((wrap64 (t744 + (wrap64 (t742 * t745)))) == t735)))) else (laws_FnWeathers.j3 kj50 false)) else (laws_FnWeathers.j3 kj50 false))) = some r:=H;have A81:=am A810;clear A810;replace H:=bS.mp H;obtain ⟨t744,A820,H⟩:=H;replace H : (if t733 ≥ 0 then (if t733 ≤ (t729.length : Int) then (if t744 < 0 then (laws_FnWeathers.j3 kj50 true) else ((impl_NeedOf.f kj50 t736).bind fun t745 => (laws_FnWeathers.j3 kj50 ((wrap64 (t744 + (wrap64 (t742 * t745)))) == t735)))) else (laws_FnWeathers.j3 kj50 false)) else (laws_FnWeathers.j3 kj50 false)) = some r:=H;have A82:=am A820;clear A820;have HC83:=am H;clear H
           go_upto_region 19 with (first | ((with_reducible refine gate_callee (f:=29) rfl ?_);refine goesL_ (some 95) rfl rfl Try.func29 (by kernel_rfl) rfl #[.slice A0 l0.length c0] rfl qq177 ?_;(with_reducible refine (spec_DrawThatKeep.calls kj50 _ _ l0 t724 t725 t726 t729 _ ?side1 ?side2 A79.out).mono ?_);(case side1 => exact qq143);(case side2 => exact HC0.out);rintro e w84 ⟨v727,v730,rfl,ho0,ho1,hb⟩;refine ⟨_,rfl,?_⟩;have HO728:=am (Kd.R_lower ho0 (below_size qq103));have HO731:=am (Kd.S_lower ho1 (below_size qq103));replace BK704:=am (blk_below (g:=gb704) (o:=.cells #[.int .i64 t698,.int .i64 t699] 37 (0,0)) qq197 hb);replace BK713:=am (blk_below (g:=gb713) (o:=.cells #[.int .i64 t707,.int .i64 t708] 37 (0,0)) qq196 hb);replace BK721:=am (blk_below (g:=gb721) (o:=.cells #[.int .i64 t716,.int .i64 t717] 37 (0,0)) qq195 hb);replace HB:=am (below_step qq103 hb);(try clear hb);(try clear hb2);(try clear hk);(try clear hi);(try clear ho0);(try clear ho1)) | ((with_reducible refine gate_dst (N:=14) rfl ?_);(try (refine gate_guard (by rfl) ?_;dsimp only));refine box_event ?hg (N:=14) ?hd (cs:=#[.int .i64 0,.int .i64 0]) (t:=37) ?hr ?_;(case hd => rfl);(case hg => rfl);(case hr => exact qq299);intro gb732 hg w85 hbox hb;replace HO728:=am (Kd.R_below qq253 hb);replace HO731:=am (Kd.S_below qq186 hb);have BK732:=am (hbox);have GW732:=am ((qq49 : w.heap.size ≤ gb732));have GE732:=am ((qq49 : w.heap.size ≤ gb732));replace HB:=am (below_step qq103 hb);have NB704_732:=am ((qq95 : gb704 ≠ gb732));have NB732_704:=am ((qq99 : gb732 ≠ gb704));replace BK704:=am (blk_below (g:=gb704) (o:=.cells #[.int .i64 t698,.int .i64 t699] 37 (0,0)) qq197 hb);have NB713_732:=am ((qq94 : gb713 ≠ gb732));have NB732_713:=am ((qq98 : gb732 ≠ gb713));replace BK713:=am (blk_below (g:=gb713) (o:=.cells #[.int .i64 t707,.int .i64 t708] 37 (0,0)) qq196 hb);have NB721_732:=am ((qq93 : gb721 ≠ gb732));have NB732_721:=am ((qq97 : gb732 ≠ gb721));replace BK721:=am (blk_below (g:=gb721) (o:=.cells #[.int .i64 t716,.int .i64 t717] 37 (0,0)) qq195 hb);clear hb hbox hg;have hnb86:=NB732_704.out;have hnc86:=NB704_732.out;have hnb87:=NB732_713.out;have hnc87:=NB713_732.out;have hnb88:=NB732_721.out;have hnc88:=NB721_732.out;obtain ⟨hcz89_0,hcz89_1,hfz89_0,hfz89_1⟩:=bcl2 BK732.out;obtain ⟨Ao90,co90,eo90⟩:=Kd.R_slice HO728.out;subst eo90;obtain ⟨Ao91,co91,eo91⟩:=Kd.S_slice HO731.out;subst eo91) | ((with_reducible refine gate_callee (f:=30) rfl ?_);refine goesL_ (some 102) rfl rfl Try.func30 (by kernel_rfl) rfl #[.agg #[.int .i64 t724,.int .i64 t725],.slice Ao90 t726.length co90,.slice Ao91 t729.length co91] rfl qq177 ?_;(with_reducible refine (impl_ThatKeep.calls kj50 t724 t725 _ _ t726 _ _ t729 t733 _ ?side1 ?side2 ?side3 ?side4 A80.out).mono ?_);(case side1 => refine (Kd.R_reads' (e:=4) (base:=w.heap.size) (ok:=fun k_ => True) (n:=t726.length) (c:=co90) ?_).2.2;exact qq14);(case side2 => exact (Kd.R_reads' HO728.out).2.1);(case side3 => refine (Kd.S_reads' (e:=25) (base:=w.heap.size) (ok:=fun k_ => some k_ ≠ (.slice Ao90 t726.length co90 : Value).ownBlock) (n:=t729.length) (c:=co91) ?_).2.2;exact qq9);(case side4 => exact (Kd.S_reads' HO731.out).2.1);rintro e w92 ⟨rfl,hb⟩;refine ⟨_,rfl,?_⟩;replace HO728:=am (Kd.R_below qq14 hb);replace HO731:=am (Kd.S_below qq9 hb);replace BK704:=am (blk_below (g:=gb704) (o:=.cells #[.int .i64 t698,.int .i64 t699] 37 (0,0)) (by (with_reducible repeat (first | refine dN ?_ _ | refine dD ?_ | refine dA ?_ _));refine blk_far ?_ NB704_732.out _;(with_reducible repeat (first | refine dN ?_ _ | refine dD ?_ | refine dA ?_ _));refine blk_far ?_ NB704_732.out _;(with_reducible repeat (first | refine dN ?_ _ | refine dD ?_ | refine dA ?_ _));exact BK704.out) hb);replace BK713:=am (blk_below (g:=gb713) (o:=.cells #[.int .i64 t707,.int .i64 t708] 37 (0,0)) (by (with_reducible repeat (first | refine dN ?_ _ | refine dD ?_ | refine dA ?_ _));refine blk_far ?_ NB713_732.out _;(with_reducible repeat (first | refine dN ?_ _ | refine dD ?_ | refine dA ?_ _));refine blk_far ?_ NB713_732.out _;(with_reducible repeat (first | refine dN ?_ _ | refine dD ?_ | refine dA ?_ _));exact BK713.out) hb);replace BK721:=am (blk_below (g:=gb721) (o:=.cells #[.int .i64 t716,.int .i64 t717] 37 (0,0)) (by (with_reducible repeat (first | refine dN ?_ _ | refine dD ?_ | refine dA ?_ _));refine blk_far ?_ NB721_732.out _;(with_reducible repeat (first | refine dN ?_ _ | refine dD ?_ | refine dA ?_ _));refine blk_far ?_ NB721_732.out _;(with_reducible repeat (first | refine dN ?_ _ | refine dD ?_ | refine dA ?_ _));exact BK721.out) hb);replace BK732:=am (blk_below (g:=gb732) (o:=.cells #[.int .i64 t724,.int .i64 t725] 37 (0,0)) (by (with_reducible repeat (first | refine dN ?_ _ | refine dD ?_ | refine dA ?_ _));refine blk_put (cs:=#[.int .i64 t724,.int .i64 0]) ?_ 1 _ rfl;(with_reducible repeat (first | refine dN ?_ _ | refine dD ?_ | refine dA ?_ _));refine blk_put (cs:=#[.int .i64 0,.int .i64 0]) ?_ 0 _ rfl;(with_reducible repeat (first | refine dN ?_ _ | refine dD ?_ | refine dA ?_ _));exact BK732.out) hb);replace HB:=am (below_step qq50 hb);(try clear hb);(try clear hb2);(try clear hk);(try clear hi)) | ((with_reducible refine gate_callee (f:=31) rfl ?_);refine goesL_ (some 105) rfl rfl Try.func31 (by kernel_rfl) rfl #[.slice A0 l0.length c0] rfl qq177 ?_;(with_reducible refine (spec_DrawFoodAfter.calls kj50 _ _ l0 t734 t735 t736 t739 t742 _ ?side1 ?side2 A81.out).mono ?_);(case side1 => exact qq143);(case side2 => exact HC0.out);rintro e w93 ⟨v737,v740,rfl,ho0,ho1,hb⟩;refine ⟨_,rfl,?_⟩;replace HO731:=am (Kd.S_elder' qq186 (Kd.R_base ho1) hb);have HO738:=am (Kd.R_lower ho0 (below_size qq50));have HO741:=am (Kd.R_lower (Kd.R_new' ho1 (Kd.R_lt qq253)) (below_size qq50));replace HO728:=am (Kd.R_elder' qq253 (Kd.R_base ho1) hb);replace BK704:=am (blk_below (g:=gb704) (o:=.cells #[.int .i64 t698,.int .i64 t699] 37 (0,0)) qq197 hb);replace BK713:=am (blk_below (g:=gb713) (o:=.cells #[.int .i64 t707,.int .i64 t708] 37 (0,0)) qq196 hb);replace BK721:=am (blk_below (g:=gb721) (o:=.cells #[.int .i64 t716,.int .i64 t717] 37 (0,0)) qq195 hb);replace BK732:=am (blk_below (g:=gb732) (o:=.cells #[.int .i64 t724,.int .i64 t725] 37 (0,0)) qq194 hb);replace HB:=am (below_step qq50 hb);(try clear hb);(try clear hb2);(try clear hk);(try clear hi);(try clear ho0);(try clear ho1)) | ((with_reducible refine gate_dst (N:=18) rfl ?_);(try (refine gate_guard (by rfl) ?_;dsimp only));refine box_event ?hg (N:=18) ?hd (cs:=#[.int .i64 0,.int .i64 0,.slice none 0 0,.slice none 0 0]) (t:=27) ?hr ?_;(case hd => rfl);(case hg => rfl);(case hr => exact qq299);intro gb743 hg w94 hbox hb;replace HO728:=am (Kd.R_below qq253 hb);replace HO731:=am (Kd.S_below qq186 hb);replace HO738:=am (Kd.R_below qq252 hb);replace HO741:=am (Kd.R_below qq251 hb);have BK743:=am (hbox);have GW743:=am ((qq24 : w.heap.size ≤ gb743));have GE743:=am ((qq24 : w.heap.size ≤ gb743));replace HB:=am (below_step qq50 hb);have NB704_743:=am ((qq95 : gb704 ≠ gb743));have NB743_704:=am ((qq99 : gb743 ≠ gb704));replace BK704:=am (blk_below (g:=gb704) (o:=.cells #[.int .i64 t698,.int .i64 t699] 37 (0,0)) qq197 hb);have NB713_743:=am ((qq94 : gb713 ≠ gb743));have NB743_713:=am ((qq98 : gb743 ≠ gb713));replace BK713:=am (blk_below (g:=gb713) (o:=.cells #[.int .i64 t707,.int .i64 t708] 37 (0,0)) qq196 hb);have NB721_743:=am ((qq93 : gb721 ≠ gb743));have NB743_721:=am ((qq97 : gb743 ≠ gb721));replace BK721:=am (blk_below (g:=gb721) (o:=.cells #[.int .i64 t716,.int .i64 t717] 37 (0,0)) qq195 hb);have NB732_743:=am ((by rw [hg];exact Nat.ne_of_lt (blk_lt (g:=gb732) (o:=.cells #[.int .i64 t724,.int .i64 t725] 37 (0,0)) qq194) : gb732 ≠ gb743));have NB743_732:=am ((by rw [hg];exact Nat.ne_of_gt (blk_lt (g:=gb732) (o:=.cells #[.int .i64 t724,.int .i64 t725] 37 (0,0)) qq194) : gb743 ≠ gb732));replace BK732:=am (blk_below (g:=gb732) (o:=.cells #[.int .i64 t724,.int .i64 t725] 37 (0,0)) qq194 hb);clear hb hbox hg;have hnb95:=NB743_704.out;have hnc95:=NB704_743.out;have hnb96:=NB743_713.out;have hnc96:=NB713_743.out;have hnb97:=NB743_721.out;have hnc97:=NB721_743.out;have hnb98:=NB743_732.out;have hnc98:=NB732_743.out;obtain ⟨hcz99_0,hcz99_1,hcz99_2,hcz99_3,hfz99_0,hfz99_1,hfz99_2,hfz99_3⟩:=bcl4 BK743.out;obtain ⟨Ao100,co100,eo100⟩:=Kd.R_slice HO738.out;subst eo100;obtain ⟨Ao101,co101,eo101⟩:=Kd.R_slice HO741.out;subst eo101) | ((with_reducible refine gate_callee (f:=32) rfl ?_);refine goesL_ (some 110) rfl rfl Try.func32 (by kernel_rfl) rfl #[.agg #[.int .i64 t734,.int .i64 t735,.slice Ao100 t736.length co100,.slice Ao101 t739.length co101],.int .i64 t742] rfl qq177 ?_;(with_reducible refine (impl_FoodAfter.calls kj50 t734 t735 _ _ t736 _ _ t739 t742 t744 _ ?side1 ?side2 ?side3 ?side4 A82.out).mono ?_);(case side1 => refine (Kd.R_reads' (e:=112) (base:=w.heap.size) (ok:=fun k_ => True) (n:=t736.length) (c:=co100) ?_).2.2;exact qq5);(case side2 => exact (Kd.R_reads' HO738.out).2.1);(case side3 => refine (Kd.R_reads' (e:=4) (base:=w.heap.size) (ok:=fun k_ => (True ∧ some k_ ≠ (.slice Ao90 t726.length co90 : Value).ownBlock)) (n:=t739.length) (c:=co101) ?_).2.2;exact qq4);(case side4 => exact (Kd.R_reads' HO741.out).2.1);rintro e w102 ⟨rfl,hb⟩;refine ⟨_,rfl,?_⟩;replace HO728:=am (Kd.R_below (by (with_reducible repeat (first | apply kA | apply kN | apply kD));exact (Kd.R_mono (Kd.R_far (p:=⟨gb743,3,none⟩) (Kd.R_far (p:=⟨gb743,2,none⟩) (Kd.R_far (p:=⟨gb743,1,none⟩) (Kd.R_far (p:=⟨gb743,0,none⟩) (Kd.R_types HO728.out BK743.out (by decide)) (fun _ hk => hk.2) (.int .i64 t734)) (fun _ hk => hk.2) (.int .i64 t735)) (fun _ hk => hk.2) (.slice Ao100 t736.length co100)) (fun _ hk => hk.2) (.slice Ao101 t739.length co101)) (fun _ h_ => h_.1))) hb);replace HO731:=am (Kd.S_below (by (with_reducible repeat (first | apply Kd.S_alloc | apply Kd.S_drewN | apply Kd.S_drew));exact (Kd.S_mono (Kd.S_far (p:=⟨gb743,3,none⟩) (Kd.S_far (p:=⟨gb743,2,none⟩) (Kd.S_far (p:=⟨gb743,1,none⟩) (Kd.S_far (p:=⟨gb743,0,none⟩) (Kd.S_types HO731.out BK743.out (by decide)) (fun _ hk => hk.2) (.int .i64 t734)) (fun _ hk => hk.2) (.int .i64 t735)) (fun _ hk => hk.2) (.slice Ao100 t736.length co100)) (fun _ hk => hk.2) (.slice Ao101 t739.length co101)) (fun _ h_ => h_.1))) hb);replace HO738:=am (Kd.R_below qq5 hb);replace HO741:=am (Kd.R_below qq4 hb);replace BK704:=am (blk_below (g:=gb704) (o:=.cells #[.int .i64 t698,.int .i64 t699] 37 (0,0)) (by (with_reducible repeat (first | refine dN ?_ _ | refine dD ?_ | refine dA ?_ _));refine blk_far ?_ NB704_743.out _;(with_reducible repeat (first | refine dN ?_ _ | refine dD ?_ | refine dA ?_ _));refine blk_far ?_ NB704_743.out _;(with_reducible repeat (first | refine dN ?_ _ | refine dD ?_ | refine dA ?_ _));refine blk_far ?_ NB704_743.out _;(with_reducible repeat (first | refine dN ?_ _ | refine dD ?_ | refine dA ?_ _));refine blk_far ?_ NB704_743.out _;(with_reducible repeat (first | refine dN ?_ _ | refine dD ?_ | refine dA ?_ _));exact BK704.out) hb);replace BK713:=am (blk_below (g:=gb713) (o:=.cells #[.int .i64 t707,.int .i64 t708] 37 (0,0)) (by (with_reducible repeat (first | refine dN ?_ _ | refine dD ?_ | refine dA ?_ _));refine blk_far ?_ NB713_743.out _;(with_reducible repeat (first | refine dN ?_ _ | refine dD ?_ | refine dA ?_ _));refine blk_far ?_ NB713_743.out _;(with_reducible repeat (first | refine dN ?_ _ | refine dD ?_ | refine dA ?_ _));refine blk_far ?_ NB713_743.out _;(with_reducible repeat (first | refine dN ?_ _ | refine dD ?_ | refine dA ?_ _));refine blk_far ?_ NB713_743.out _;(with_reducible repeat (first | refine dN ?_ _ | refine dD ?_ | refine dA ?_ _));exact BK713.out) hb);replace BK721:=am (blk_below (g:=gb721) (o:=.cells #[.int .i64 t716,.int .i64 t717] 37 (0,0)) (by (with_reducible repeat (first | refine dN ?_ _ | refine dD ?_ | refine dA ?_ _));refine blk_far ?_ NB721_743.out _;(with_reducible repeat (first | refine dN ?_ _ | refine dD ?_ | refine dA ?_ _));refine blk_far ?_ NB721_743.out _;(with_reducible repeat (first | refine dN ?_ _ | refine dD ?_ | refine dA ?_ _));refine blk_far ?_ NB721_743.out _;(with_reducible repeat (first | refine dN ?_ _ | refine dD ?_ | refine dA ?_ _));refine blk_far ?_ NB721_743.out _;(with_reducible repeat (first | refine dN ?_ _ | refine dD ?_ | refine dA ?_ _));exact BK721.out) hb);replace BK732:=am (blk_below (g:=gb732) (o:=.cells #[.int .i64 t724,.int .i64 t725] 37 (0,0)) (by (with_reducible repeat (first | refine dN ?_ _ | refine dD ?_ | refine dA ?_ _));refine blk_far ?_ NB732_743.out _;(with_reducible repeat (first | refine dN ?_ _ | refine dD ?_ | refine dA ?_ _));refine blk_far ?_ NB732_743.out _;(with_reducible repeat (first | refine dN ?_ _ | refine dD ?_ | refine dA ?_ _));refine blk_far ?_ NB732_743.out _;(with_reducible repeat (first | refine dN ?_ _ | refine dD ?_ | refine dA ?_ _));refine blk_far ?_ NB732_743.out _;(with_reducible repeat (first | refine dN ?_ _ | refine dD ?_ | refine dA ?_ _));exact BK732.out) hb);replace BK743:=am (blk_below (g:=gb743) (o:=.cells #[.int .i64 t734,.int .i64 t735,.slice Ao100 t736.length co100,.slice Ao101 t739.length co101] 27 (0,0)) (by (with_reducible repeat (first | refine dN ?_ _ | refine dD ?_ | refine dA ?_ _));refine blk_put (cs:=#[.int .i64 t734,.int .i64 t735,.slice Ao100 t736.length co100,.slice none 0 0]) ?_ 3 _ rfl;(with_reducible repeat (first | refine dN ?_ _ | refine dD ?_ | refine dA ?_ _));refine blk_put (cs:=#[.int .i64 t734,.int .i64 t735,.slice none 0 0,.slice none 0 0]) ?_ 2 _ rfl;(with_reducible repeat (first | refine dN ?_ _ | refine dD ?_ | refine dA ?_ _));refine blk_put (cs:=#[.int .i64 t734,.int .i64 0,.slice none 0 0,.slice none 0 0]) ?_ 1 _ rfl;(with_reducible repeat (first | refine dN ?_ _ | refine dD ?_ | refine dA ?_ _));refine blk_put (cs:=#[.int .i64 0,.int .i64 0,.slice none 0 0,.slice none 0 0]) ?_ 0 _ rfl;(with_reducible repeat (first | refine dN ?_ _ | refine dD ?_ | refine dA ?_ _));exact BK743.out) hb);replace HB:=am (below_step qq25 hb);(try clear hb);(try clear hb2);(try clear hk);(try clear hi)))
           (try simp only [Act.put,sA,s0,s1])
           go_cut [2] (fun v2 wc => ∃ (kq : Nat) (x2_82 : Bool),v2 = .bool x2_82 ∧ Aside0 (laws_FnWeathers.j3 kq x2_82 = some r) ∧ Aside0 (kq ≤ kj50) ∧ Aside0 (Kd.R k112 112 wc w.heap.size (fun _ => True) (.slice Ao100 t736.length co100) t736) ∧ Aside0 (Kd.R Kd.bool 4 wc w.heap.size (fun _ => True) (.slice Ao101 t739.length co101) t739) ∧ Aside0 (wc.heap[gb704]? = some (.cells #[.int .i64 t698,.int .i64 t699] 37 (0,0))) ∧ Aside0 (wc.heap[gb713]? = some (.cells #[.int .i64 t707,.int .i64 t708] 37 (0,0))) ∧ Aside0 (wc.heap[gb721]? = some (.cells #[.int .i64 t716,.int .i64 t717] 37 (0,0))) ∧ Aside0 (wc.heap[gb732]? = some (.cells #[.int .i64 t724,.int .i64 t725] 37 (0,0))) ∧ Aside0 (wc.heap[gb743]? = some (.cells #[.int .i64 t734,.int .i64 t735,(.slice Ao100 t736.length co100),(.slice Ao101 t739.length co101)] 27 (0,0))) ∧ Aside0 (Below w.heap.size w wc))
           case first =>
            have H:=HC83.out;clear HC83
            by_cases c103 : t733 ≥ 0
            ·rw [if_pos c103] at H;have c103b0 : decide (0 ≤ t733) = true:=decide_eq_true c103;clear c103;(first | rw [c103b0] | (simp only [i64_w,i32_w];rw [c103b0]) | skip)
             by_cases c104 : t733 ≤ (t729.length : Int)
             ·rw [if_pos c104] at H;have c104b0 : decide (t733 ≤ (t729.length : Int)) = true:=decide_eq_true c104;clear c104
              by_cases c105 : t744 < 0
              ·rw [if_pos c105] at H;have c105b0 : decide (t744 < 0) = true:=decide_eq_true c105;clear c105;have H':=am H;clear H
               try go_wp2
               replace HO728:=am (Kd.R_drew HO728.out);replace HO731:=am (Kd.S_drew HO731.out);replace HO738:=am (Kd.R_drew HO738.out);replace HO741:=am (Kd.R_drew HO741.out);replace BK704:=am (blk_drew BK704.out);replace BK713:=am (blk_drew BK713.out);replace BK721:=am (blk_drew BK721.out);replace BK732:=am (blk_drew BK732.out);replace BK743:=am (blk_drew BK743.out);replace HB:=am (below_drew1 HB.out);refine start_ (n:=25) (S:=fun w' => True) (ds:=[]) m0_20 (by kernel_rfl) rfl rfl trivial (fun hHeld => ?_);refine with_tabW laws_FnWeathers.tab19 laws_FnWeathers.bits19 (fun HT_ HW_ => ?_)
               generalize w102.drew = w106 at HO728 HO731 HO738 HO741 BK704 BK713 BK721 BK732 BK743 HB hHeld ⊢
               refine pV (i:=0) (N:=some 111) m1_20 rfl rfl qT ?_
               refine pV (i:=1) (N:=some 112) m2_20 rfl rfl qT ?_
               refine pV (i:=2) (N:=some 113) m3_20 rfl rfl qT ?_
               refine pV (i:=3) (N:=some 114) m4_20 rfl rfl qT ?_
               refine pV (i:=4) (N:=some 115) m5_20 rfl rfl qT ?_
               refine pV (i:=5) (N:=some 116) m6_20 rfl rfl qT ?_
               refine pV (i:=6) (N:=some 117) m7_20 rfl rfl qT ?_
               refine pV (i:=7) (N:=some 118) m8_20 rfl rfl qT ?_
               refine pV (i:=8) (N:=some 119) m9_20 rfl rfl qT ?_
               refine pV (i:=9) (N:=some 120) m10_20 rfl rfl qT ?_
               refine pV (i:=10) (N:=some 121) m11_20 rfl rfl qT ?_
               refine pV (i:=11) (N:=some 122) m12_20 rfl rfl qT ?_
               refine pW (i:=12) (N:=some 123) m13_20 rfl rfl qT ?_
               refine pW (i:=13) (N:=some 124) m14_20 rfl rfl qT ?_
               refine pW (i:=14) (N:=some 125) m15_20 rfl rfl qT ?_
               refine pW (i:=15) (N:=some 126) m16_20 rfl rfl qT ?_
               refine pW (i:=16) (N:=some 127) m17_20 rfl rfl qT ?_
               refine pW (i:=17) (N:=some 128) m18_20 rfl rfl qT ?_
               refine pW (i:=18) (N:=some 129) m19_20 rfl rfl qT ?_
               refine pW (i:=19) (N:=some 130) m20_20 rfl rfl qT ?_
               refine pW (i:=20) (N:=some 131) m21_20 rfl rfl qT ?_
               refine pW (i:=21) (N:=some 132) m22_20 rfl rfl qT ?_
               refine pV (i:=22) (N:=some 133) m23_20 rfl rfl qT ?_
               refine pV (i:=23) (N:=some 134) m24_20 rfl rfl qT ?_
               refine pV (i:=24) (N:=some 2) m25_20 rfl rfl qT ?_
               refine done_ (done_of HT_.out (by kernel_rfl)) ?_
               try go_wp2
               go_meet
               case rel => exact ⟨_,(true),qq298,H',⟨qq285⟩,⟨qq252⟩,⟨qq183⟩,⟨qq197⟩,⟨qq196⟩,⟨qq195⟩,⟨qq194⟩,⟨qq193⟩,⟨qq25⟩⟩
              ·rw [if_neg c105] at H;have c105b0 : decide (t744 < 0) = false:=decide_eq_false c105;clear c105;replace H:=bS.mp H;obtain ⟨t745,A1070,H⟩:=H;replace H : (laws_FnWeathers.j3 kj50 ((wrap64 (t744 + (wrap64 (t742 * t745)))) == t735)) = some r:=H;have A107:=am A1070;clear A1070;have H':=am H;clear H
               try go_wp2
               replace HO728:=am (Kd.R_drew HO728.out);replace HO731:=am (Kd.S_drew HO731.out);replace HO738:=am (Kd.R_drew HO738.out);replace HO741:=am (Kd.R_drew HO741.out);replace BK704:=am (blk_drew BK704.out);replace BK713:=am (blk_drew BK713.out);replace BK721:=am (blk_drew BK721.out);replace BK732:=am (blk_drew BK732.out);replace BK743:=am (blk_drew BK743.out);replace HB:=am (below_drew1 HB.out);refine start_ (n:=25) (S:=fun w' => w'.cell? ⟨gb743,0,none⟩ = some (.int .i64 t734) ∧ w'.cell? ⟨gb743,1,none⟩ = some (.int .i64 t735) ∧ w'.cell? ⟨gb743,2,none⟩ = some (.slice Ao100 t736.length co100) ∧ w'.cell? ⟨gb743,3,none⟩ = some (.slice Ao101 t739.length co101)) (ds:=[]) m0_20 (by kernel_rfl) rfl rfl ⟨(blk_cell BK743.out 0).trans rfl,(blk_cell BK743.out 1).trans rfl,(blk_cell BK743.out 2).trans rfl,(blk_cell BK743.out 3).trans rfl⟩ (fun hHeld => ?_);refine with_tabW laws_FnWeathers.tab19 laws_FnWeathers.bits19 (fun HT_ HW_ => ?_)
               generalize w102.drew = w108 at HO728 HO731 HO738 HO741 BK704 BK713 BK721 BK732 BK743 HB hHeld ⊢
               refine pV (i:=0) (N:=some 111) m1_20 rfl rfl qT ?_
               refine pV (i:=1) (N:=some 112) m2_20 rfl rfl qT ?_
               refine pV (i:=2) (N:=some 113) m3_20 rfl rfl qT ?_
               refine pV (i:=3) (N:=some 114) m4_20 rfl rfl qT ?_
               refine pV (i:=4) (N:=some 115) m5_20 rfl rfl qT ?_
               refine pV (i:=5) (N:=some 116) m6_20 rfl rfl qT ?_
               refine pV (i:=6) (N:=some 117) m7_20 rfl rfl qT ?_
               refine pV (i:=7) (N:=some 118) m8_20 rfl rfl qT ?_
               refine pV (i:=8) (N:=some 119) m9_20 rfl rfl qT ?_
               refine pV (i:=9) (N:=some 120) m10_20 rfl rfl qT ?_
               refine pV (i:=10) (N:=some 121) m11_20 rfl rfl qT ?_
               refine pV (i:=11) (N:=some 122) m12_20 rfl rfl qT ?_
               refine pV (i:=12) (N:=some 123) m13_20 rfl rfl qT ?_
               refine pV (i:=13) (N:=some 124) m14_20 rfl rfl qT ?_
               refine pV (i:=14) (N:=some 125) m15_20 rfl rfl qT ?_
               refine pV (i:=19) (N:=some 130) #[Y,Y,Y,Y,Y,Y,Y,Y,Y,Y,Y,Y,Y,Y,Y,Z,Z,Z,Z,Y,Z,Z,Z,Z,Z] rfl rfl qT ?_
               refine tV4 (i:=15) (N:=some 126) #[Y,Y,Y,Y,Y,Y,Y,Y,Y,Y,Y,Y,Y,Y,Y,Y,Z,Z,Z,Y,Z,Z,Z,Z,Z] rfl rfl (take_ofW HT_.out HW_.out (by kernel_rfl)) hHeld ?_
               refine tV4 (i:=20) (N:=some 131) #[Y,Y,Y,Y,Y,Y,Y,Y,Y,Y,Y,Y,Y,Y,Y,Y,Z,Z,Z,Y,Y,Z,Z,Z,Z] rfl rfl (take_ofW HT_.out HW_.out (by kernel_rfl)) hHeld ?_
               refine one_ (i:=16) (N:=some 127) #[Y,Y,Y,Y,Y,Y,Y,Y,Y,Y,Y,Y,Y,Y,Y,Y,Y,Z,Z,Y,Y,Z,Z,Z,Z] rfl rfl (one_of HT_.out (by kernel_rfl)) (by decide) (fun K hK => ?_);refine goes_ Try.func19 (by kernel_rfl) rfl #[.slice Ao100 t736.length co100] (by rfl) rfl rfl qq177 ?_;with_reducible refine (impl_NeedOf.calls kj50 _ _ t736 t745 _ ?side1 ?side2 A107.out).mono ?_
               (case side1 => repeat (first | exact (Kd.R_reads' HO738.out).2.2 | (with_reducible refine cA ?_ _) | (with_reducible refine cN ?_ _) | (with_reducible refine cD ?_)));(case side2 => exact (Kd.R_reads' HO738.out).2.1)
               rintro e w109 ⟨rfl,hb⟩
               refine ⟨_,rfl,?_⟩;replace HO728:=am (Kd.R_below qq253 hb);replace HO731:=am (Kd.S_below qq186 hb);replace HO738:=am (Kd.R_below qq252 hb);replace HO741:=am (Kd.R_below qq251 hb);replace BK704:=am (blk_below (g:=gb704) (o:=.cells #[.int .i64 t698,.int .i64 t699] 37 (0,0)) qq197 hb);replace BK713:=am (blk_below (g:=gb713) (o:=.cells #[.int .i64 t707,.int .i64 t708] 37 (0,0)) qq196 hb);replace BK721:=am (blk_below (g:=gb721) (o:=.cells #[.int .i64 t716,.int .i64 t717] 37 (0,0)) qq195 hb);replace BK732:=am (blk_below (g:=gb732) (o:=.cells #[.int .i64 t724,.int .i64 t725] 37 (0,0)) qq194 hb);replace BK743:=am (blk_below (g:=gb743) (o:=.cells #[.int .i64 t734,.int .i64 t735,.slice Ao100 t736.length co100,.slice Ao101 t739.length co101] 27 (0,0)) qq193 hb);replace HB:=am (below_step qq25 hb);(try clear hb);(try clear hb2);(try clear hk);(try clear hi);refine hK.out _ _ ⟨(blk_cell BK743.out 0).trans rfl,(blk_cell BK743.out 1).trans rfl,(blk_cell BK743.out 2).trans rfl,(blk_cell BK743.out 3).trans rfl⟩ (fun hHeld => ?_);clear hK K;refine norm_ (a':=?_) ?_ ?_;rotate_left
               ·show Act.put _ (some 127) _ = _
                simp only [Act.put,sA,s0,s1,i64_w,i32_w];rfl
               refine pV (i:=17) (N:=some 128) #[Y,Y,Y,Y,Y,Y,Y,Y,Y,Y,Y,Y,Y,Y,Y,Y,Y,Y,Z,Y,Y,Z,Z,Z,Z] rfl rfl qT ?_
               refine pV (i:=18) (N:=some 129) m21_20 rfl rfl qT ?_
               refine pV (i:=21) (N:=some 132) m22_20 rfl rfl qT ?_
               refine pV (i:=22) (N:=some 133) m23_20 rfl rfl qT ?_
               refine pV (i:=23) (N:=some 134) m24_20 rfl rfl qT ?_
               refine pV (i:=24) (N:=some 2) m25_20 rfl rfl qT ?_
               refine done_ (done_of HT_.out (by kernel_rfl)) ?_
               try go_wp2
               go_meet
               case rel => exact ⟨_,(((wrap64 (t744 + (wrap64 (t742 * t745)))) == t735)),qq298,H',⟨qq285⟩,⟨qq252⟩,⟨qq183⟩,⟨qq197⟩,⟨qq196⟩,⟨qq195⟩,⟨qq194⟩,⟨qq193⟩,⟨qq25⟩⟩
             ·rw [if_neg c104] at H;have c104b0 : decide (t733 ≤ (t729.length : Int)) = false:=decide_eq_false c104;clear c104;have H':=am H;clear H
              try go_wp2
              replace HO728:=am (Kd.R_drew HO728.out);replace HO731:=am (Kd.S_drew HO731.out);replace HO738:=am (Kd.R_drew HO738.out);replace HO741:=am (Kd.R_drew HO741.out);replace BK704:=am (blk_drew BK704.out);replace BK713:=am (blk_drew BK713.out);replace BK721:=am (blk_drew BK721.out);replace BK732:=am (blk_drew BK732.out);replace BK743:=am (blk_drew BK743.out);replace HB:=am (below_drew1 HB.out);refine start_ (n:=25) (S:=fun w' => True) (ds:=[]) m0_20 (by kernel_rfl) rfl rfl trivial (fun hHeld => ?_);refine with_tabW laws_FnWeathers.tab19 laws_FnWeathers.bits19 (fun HT_ HW_ => ?_)
              generalize w102.drew = w110 at HO728 HO731 HO738 HO741 BK704 BK713 BK721 BK732 BK743 HB hHeld ⊢
              refine pV (i:=0) (N:=some 111) m1_20 rfl rfl qT ?_
              refine pV (i:=1) (N:=some 112) m2_20 rfl rfl qT ?_
              refine pV (i:=2) (N:=some 113) m3_20 rfl rfl qT ?_
              refine pV (i:=3) (N:=some 114) m4_20 rfl rfl qT ?_
              refine pV (i:=4) (N:=some 115) m5_20 rfl rfl qT ?_
              refine pV (i:=5) (N:=some 116) m6_20 rfl rfl qT ?_
              refine pV (i:=6) (N:=some 117) m7_20 rfl rfl qT ?_
              refine pV (i:=7) (N:=some 118) m8_20 rfl rfl qT ?_
              refine pV (i:=8) (N:=some 119) m9_20 rfl rfl qT ?_
              refine pW (i:=9) (N:=some 120) m10_20 rfl rfl qT ?_
              refine pW (i:=10) (N:=some 121) m11_20 rfl rfl qT ?_
              refine pW (i:=11) (N:=some 122) m12_20 rfl rfl qT ?_
              refine pW (i:=12) (N:=some 123) m13_20 rfl rfl qT ?_
              refine pW (i:=13) (N:=some 124) m14_20 rfl rfl qT ?_
              refine pW (i:=14) (N:=some 125) m15_20 rfl rfl qT ?_
              refine pW (i:=15) (N:=some 126) m16_20 rfl rfl qT ?_
              refine pW (i:=16) (N:=some 127) m17_20 rfl rfl qT ?_
              refine pW (i:=17) (N:=some 128) m18_20 rfl rfl qT ?_
              refine pW (i:=18) (N:=some 129) m19_20 rfl rfl qT ?_
              refine pW (i:=19) (N:=some 130) m20_20 rfl rfl qT ?_
              refine pW (i:=20) (N:=some 131) m21_20 rfl rfl qT ?_
              refine pW (i:=21) (N:=some 132) m22_20 rfl rfl qT ?_
              refine pW (i:=22) (N:=some 133) m23_20 rfl rfl qT ?_
              refine pV (i:=23) (N:=some 134) m24_20 rfl rfl qT ?_
              refine pV (i:=24) (N:=some 2) m25_20 rfl rfl qT ?_
              refine done_ (done_of HT_.out (by kernel_rfl)) ?_
              try go_wp2
              go_meet
              case rel => exact ⟨_,(false),qq298,H',⟨qq285⟩,⟨qq252⟩,⟨qq183⟩,⟨qq197⟩,⟨qq196⟩,⟨qq195⟩,⟨qq194⟩,⟨qq193⟩,⟨qq25⟩⟩
            ·rw [if_neg c103] at H;have c103b0 : decide (0 ≤ t733) = false:=decide_eq_false c103;clear c103;(first | rw [c103b0] | (simp only [i64_w,i32_w];rw [c103b0]) | skip);have H':=am H;clear H
             try go_wp2
             replace HO728:=am (Kd.R_drew HO728.out);replace HO731:=am (Kd.S_drew HO731.out);replace HO738:=am (Kd.R_drew HO738.out);replace HO741:=am (Kd.R_drew HO741.out);replace BK704:=am (blk_drew BK704.out);replace BK713:=am (blk_drew BK713.out);replace BK721:=am (blk_drew BK721.out);replace BK732:=am (blk_drew BK732.out);replace BK743:=am (blk_drew BK743.out);replace HB:=am (below_drew1 HB.out);refine start_ (n:=25) (S:=fun w' => True) (ds:=[]) m0_20 (by kernel_rfl) rfl rfl trivial (fun hHeld => ?_);refine with_tabW laws_FnWeathers.tab19 laws_FnWeathers.bits19 (fun HT_ HW_ => ?_)
             generalize w102.drew = w111 at HO728 HO731 HO738 HO741 BK704 BK713 BK721 BK732 BK743 HB hHeld ⊢
             refine pV (i:=0) (N:=some 111) m1_20 rfl rfl qT ?_
             refine pV (i:=1) (N:=some 112) m2_20 rfl rfl qT ?_
             refine pV (i:=2) (N:=some 113) m3_20 rfl rfl qT ?_
             refine pW (i:=3) (N:=some 114) m4_20 rfl rfl qT ?_
             refine pW (i:=4) (N:=some 115) m5_20 rfl rfl qT ?_
             refine pW (i:=5) (N:=some 116) m6_20 rfl rfl qT ?_
             refine pW (i:=6) (N:=some 117) m7_20 rfl rfl qT ?_
             refine pV (i:=7) (N:=some 118) m8_20 rfl rfl qT ?_
             refine pV (i:=8) (N:=some 119) m9_20 rfl rfl qT ?_
             refine pW (i:=9) (N:=some 120) m10_20 rfl rfl qT ?_
             refine pW (i:=10) (N:=some 121) m11_20 rfl rfl qT ?_
             refine pW (i:=11) (N:=some 122) m12_20 rfl rfl qT ?_
             refine pW (i:=12) (N:=some 123) m13_20 rfl rfl qT ?_
             refine pW (i:=13) (N:=some 124) m14_20 rfl rfl qT ?_
             refine pW (i:=14) (N:=some 125) m15_20 rfl rfl qT ?_
             refine pW (i:=15) (N:=some 126) m16_20 rfl rfl qT ?_
             refine pW (i:=16) (N:=some 127) m17_20 rfl rfl qT ?_
             refine pW (i:=17) (N:=some 128) m18_20 rfl rfl qT ?_
             refine pW (i:=18) (N:=some 129) m19_20 rfl rfl qT ?_
             refine pW (i:=19) (N:=some 130) m20_20 rfl rfl qT ?_
             refine pW (i:=20) (N:=some 131) m21_20 rfl rfl qT ?_
             refine pW (i:=21) (N:=some 132) m22_20 rfl rfl qT ?_
             refine pW (i:=22) (N:=some 133) m23_20 rfl rfl qT ?_
             refine pV (i:=23) (N:=some 134) m24_20 rfl rfl qT ?_
             refine pV (i:=24) (N:=some 2) m25_20 rfl rfl qT ?_
             refine done_ (done_of HT_.out (by kernel_rfl)) ?_
             try go_wp2
             go_meet
             case rel => exact ⟨_,(false),qq298,H',⟨qq285⟩,⟨qq252⟩,⟨qq183⟩,⟨qq197⟩,⟨qq196⟩,⟨qq195⟩,⟨qq194⟩,⟨qq193⟩,⟨qq25⟩⟩
           case rest =>
            clear HC83
            try clear c1
            try clear p2
            try clear p6
            try clear c10
            try clear c19
            try clear p64
            try clear c103
            try clear c103b0
            try clear c104
            try clear c104b0
            obtain ⟨kq,x2_82,rfl,HA,HJ82,HO_744002,HO_744003,BK704,BK713,BK721,BK732,BK743,HB⟩:=hcut
            cases kq with
            | zero => exact absurd HA.out (by simp [laws_FnWeathers.j3])
            | succ kj82 =>
             have H:=HA.out;clear HA;simp only [laws_FnWeathers.j3] at H;obtain rfl:=Option.some.inj H;go_wp2
             go_ret
             exact ⟨qq244,qq25⟩

/-- THE ONE PURE STATEMENT of laws_FnWeathers: yours. -/
def laws_FnWeathers.Pure : Prop := ∀ (l0 : List Int), l0.length ≤ maxLen → l0.length * 1 ≤ 140737488351232 → (∀ x ∈ l0, (Lit.int .u8 x).wf = true) → ∃ k, laws_FnWeathers.f k l0 = some true
theorem laws_FnWeathers.walk (P : laws_FnWeathers.Pure) (a0 : Option Addr) (len0 cap0 : Nat) (z0 : List Int) (w : World) (w0 : (a0 = none ∧ len0 = 0 ∧ cap0 = 0 ∧ z0 = []) ∨ ∃ x, a0 = some x ∧ len0 ≤ cap0 ∧ cap0 ≤ maxLen ∧ z0.length = cap0 ∧ (∀ i, i < z0.length → w.cell? (x.add i) = some (.int .u8 (z0.getD i 0))) ∧ ∀ n ∈ z0, (Lit.int .u8 n).wf = true) (y0 : len0 * 1 ≤ 140737488351232) :
  Calls Try.prog 4 #[.slice a0 len0 cap0] w fun e w' => e = .returned (.bool true) ∧ Below w.heap.size w w':=by
 obtain ⟨l0,rfl,hr0,hm0,hw0,hc0⟩:=ReadsInt.ofRowC w0
 obtain ⟨k,h⟩:=P l0 hm0 y0 hw0
 refine (laws_FnWeathers.calls k _ _ l0 true w (Kd.C_of_reads (d:=(0 : Int)) (h1:=fun _ => rfl) hr0) hc0 h).mono ?_
 rintro e w' ⟨rfl,hd⟩
 exact ⟨rfl,hd⟩

end Go.Proofs.Ytcbkknpmeknppaa.PFnWeathers
