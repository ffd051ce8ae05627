/- Contracts of functions that the law FnWeathers reaches, for its row: lines that the kit's printer wrote for this claim, set shorter by a program of this session (own.py), and what fell in Lean proved anew. Lean checks them. -/
import Derived.Test.YtcbkknpmeknppaaSFnWeathersx0
import Derived.Test.YtcbkknpmeknppaaSFnWeathersx12
import Derived.Test.YtcbkknpmeknppaaSFnWeathersx14
namespace Go.Proofs.Ytcbkknpmeknppaa.PFnWeathers
open Go.RowKit Go.Proofs.YtcbkknpmeknppaaW.PrintWords Go.Proofs.YtcbkknpmeknppaaW.PrintLast Go.Proofs.YtcbkknpmeknppaaW.PrintMore
attribute [local go_sem] max2_int min2_int max_two min_two max_three min_three max_four min_four   -- for this text's walks alone
set_option linter.unusedVariables false
set_option linter.unusedSimpArgs false

/-! ### spec_Reach: function 128 -/
def spec_Reach.l0 : Nat → Int → List Int → List Int → Int → Option (List Int)
 | 0,_,_,_,_ => none
 | k + 1,x2,x7,x8,x9 => if x9 < (x8.length : Int) then (if 0 ≤ x9 then (if (rd x8 x9) ≥ 0 then (if (rd x8 x9) ≤ x2 then (if x7.length < 17592186044416 then (spec_Reach.l0 k x2 (x7 ++ [x9]) x8 (wrap64 (x9 + 1))) else (none)) else (spec_Reach.l0 k x2 x7 x8 (wrap64 (x9 + 1)))) else (spec_Reach.l0 k x2 x7 x8 (wrap64 (x9 + 1)))) else (none)) else (some x7)
def spec_Reach.f (k : Nat) (a0_0 : Int) (a0_1 : Int) (l0_2 : List Int) (a1 : Int) (a2 : Int) : Option (List Int) := (some (([] : List Int) : List Int)).bind fun y503 => ((spec_IsOpen.f k a0_0 a0_1 l0_2 a1).bind fun t506 => (if t506 = true then ((spec_l5From.f k a0_0 a0_1 l0_2 a1).bind fun t507 => (spec_Reach.l0 k a2 y503 t507 0)) else (some y503)))
set_option maxHeartbeats 8000000 in
set_option maxRecDepth 100000 in
theorem spec_Reach.calls (k : Nat) (a0_0 : Int) (a0_1 : Int) (A0_2 : Option Addr) (c0_2 : Nat) (l0_2 : List Int) (a1 : Int) (a2 : Int) (r : List Int) (w : World) (hr0_2 : Kd.C (Kd.int .i64) w A0_2 l0_2.length l0_2) (hc0_2 : l0_2.length ≤ c0_2) (h : spec_Reach.f k a0_0 a0_1 l0_2 a1 a2 = some r) :
  Calls Try.prog 128 #[.agg #[.int .i64 a0_0,.int .i64 a0_1,.slice A0_2 l0_2.length c0_2],.int .i64 a1,.int .i64 a2] w fun e w' => ∃ v0_ : Value,e = .returned (v0_) ∧ Kd.R (Kd.int .i64) 3 w' w.heap.size (fun _ => True) v0_ r ∧ Below w.heap.size w w':=by
 have hu51:=Try.underlying51;have HR0_2:=am hr0_2;have HC0_2:=am hc0_2;clear hr0_2 hc0_2;have HB:=am (Below.refl w.heap.size w);have H : ((some (([] : List Int) : List Int)).bind fun y503 => ((spec_IsOpen.f k a0_0 a0_1 l0_2 a1).bind fun t506 => (if t506 = true then ((spec_l5From.f k a0_0 a0_1 l0_2 a1).bind fun t507 => (spec_Reach.l0 k a2 y503 t507 0)) else (some y503)))) = some r:=h;clear h;obtain ⟨y503,hy503⟩ : ∃ y_ : List Int,y_ = (([] : List Int)):=⟨_,rfl⟩
 replace H : ((spec_IsOpen.f k a0_0 a0_1 l0_2 a1).bind fun t506 => (if t506 = true then ((spec_l5From.f k a0_0 a0_1 l0_2 a1).bind fun t507 => (spec_Reach.l0 k a2 y503 t507 0)) else (some y503))) = some r:=by first | (rw [hy503];with_reducible exact H) | (have H2_:=(Option.bind_some _ _).symm.trans H;rw [hy503];with_reducible exact H2_) | (have H2_:=(Option.bind_some _ _).symm.trans H;with_reducible exact H2_) | with_reducible exact H | (rw [hy503];exact H) | exact H
 have Ny503:=am hy503;clear hy503;replace H:=bS.mp H;obtain ⟨t506,A40,H⟩:=H;replace H : (if t506 = true then ((spec_l5From.f k a0_0 a0_1 l0_2 a1).bind fun t507 => (spec_Reach.l0 k a2 y503 t507 0)) else (some y503)) = some r:=H;have A4:=am A40;clear A40
 by_cases c5 : t506 = true
 ·subst c5;have H1 : ((spec_l5From.f k a0_0 a0_1 l0_2 a1).bind fun t507 => (spec_Reach.l0 k a2 y503 t507 0)) = some r:=by rw [if_pos rfl] at H;exact H
  clear H;have H:=H1;clear H1;replace H:=bS.mp H;obtain ⟨t507,A60,H⟩:=H;replace H : (spec_Reach.l0 k a2 y503 t507 0) = some r:=H;have A6:=am A60;clear A60;have H':=am H;clear H
  go_enter Try.func128,Try.ntmps128
  go_wp2_with (first | ((with_reducible refine gate_dst (N:=3) rfl ?_);refine box_event ?hg (N:=3) ?hd (cs:=#[.int .i64 a0_0,.int .i64 a0_1,.slice A0_2 l0_2.length c0_2]) (t:=51) ?hr ?_;(case hd => rfl);(case hg => rfl);(case hr => exact qq299);intro gb502 hg w7 hbox hb;have BK502:=am (hbox);have GW502:=am ((qq153 : w.heap.size ≤ gb502));have GE502:=am ((qq153 : w.heap.size ≤ gb502));replace HB:=am (below_step qq189 hb);clear hb hbox hg) | ((with_reducible refine gate_dst (N:=10) rfl ?_);refine Kd.R_lit (Kd.int .i64) _ 3 ?hg (N:=10) ?hd (xs:=([] : List Int)) (inner:=[]) (ok:=fun _ => True) (okp:=fun _ => True) ?hr ?hp (fun _ hk => hk) trivial (Below.refl _ _) (Nat.le_refl _) (by simp) ?_;(case hd => rfl);(case hg => rfl);(case hr => exact qq299);(case hp => exact qq306);intro v504 w8 ho9 hb hg_ hnew_;clear hg_ hnew_;(first | rw [← Ny503.out] at ho9 | (simp only [Int.reduceToNat] at ho9;rw [← Ny503.out] at ho9));have HO505:=am (Kd.R_lower ho9 (below_size qq159));replace BK502:=am (blk_below (g:=gb502) (o:=.cells #[.int .i64 a0_0,.int .i64 a0_1,.slice A0_2 l0_2.length c0_2] 51 (0,0)) qq217 hb);replace HB:=am (below_step qq159 hb);clear hb ho9;obtain ⟨hcz10_0,hcz10_1,hcz10_2,hfz10_0,hfz10_1,hfz10_2⟩:=bcl3 BK502.out) | ((with_reducible refine gate_callee (f:=105) rfl ?_);refine goesL_ (some 13) rfl rfl Try.func105 (by kernel_rfl) rfl #[.agg #[.int .i64 a0_0,.int .i64 a0_1,.slice A0_2 l0_2.length c0_2],.int .i64 a1] rfl qq177 ?_;(with_reducible refine (spec_IsOpen.calls k a0_0 a0_1 _ _ l0_2 a1 true _ ?side1 ?side2 A4.out).mono ?_);(case side1 => exact qq136);(case side2 => exact qq309);rintro e w11 ⟨rfl,hb⟩;refine ⟨_,rfl,?_⟩;replace HO505:=am (Kd.R_below qq267 hb);replace BK502:=am (blk_below (g:=gb502) (o:=.cells #[.int .i64 a0_0,.int .i64 a0_1,.slice A0_2 l0_2.length c0_2] 51 (0,0)) qq217 hb);replace HB:=am (below_step qq159 hb);(try clear hb);(try clear hb2);(try clear hk);(try clear hi);obtain ⟨hcz12_0,hcz12_1,hcz12_2,hfz12_0,hfz12_1,hfz12_2⟩:=bcl3 BK502.out) | ((with_reducible refine gate_callee (f:=136) rfl ?_);refine goesL_ (some 18) rfl rfl Try.func136 (by kernel_rfl) rfl #[.agg #[.int .i64 a0_0,.int .i64 a0_1,.slice A0_2 l0_2.length c0_2],.int .i64 a1] rfl qq177 ?_;(with_reducible refine (spec_l5From.calls k a0_0 a0_1 _ _ l0_2 a1 t507 _ ?side1 ?side2 A6.out).mono ?_);(case side1 => exact qq136);(case side2 => exact qq309);rintro e w13 ⟨v508,rfl,ho0,hb⟩;refine ⟨_,rfl,?_⟩;have HO509:=am (Kd.R_lower (Kd.R_new' ho0 (Kd.R_lt qq267)) (below_size qq159));replace HO505:=am (Kd.R_elder' qq267 (Kd.R_base ho0) hb);replace BK502:=am (blk_below (g:=gb502) (o:=.cells #[.int .i64 a0_0,.int .i64 a0_1,.slice A0_2 l0_2.length c0_2] 51 (0,0)) qq217 hb);replace HB:=am (below_step qq159 hb);(try clear hb);(try clear hb2);(try clear hk);(try clear hi);(try clear ho0)))
  go_loopg [7,9] k (fun kq v7 v9 w' => ∃ (x7_1 : List Int) (x9_1 : Int),v9 = .int .i64 x9_1 ∧ Aside0 (spec_Reach.l0 kq a2 x7_1 t507 x9_1 = some r) ∧ Aside0 (kq ≤ k) ∧ Aside0 (Kd.R (Kd.int .i64) 3 w' w.heap.size (fun k_ => some k_ ≠ (v508 : Value).ownBlock) v7 x7_1) ∧ Aside0 (Kd.R (Kd.int .i64) 3 w' w.heap.size (fun k_ => some k_ ≠ (v7 : Value).ownBlock) v508 t507) ∧ Aside0 (w'.heap[gb502]? = some (.cells #[.int .i64 a0_0,.int .i64 a0_1,(.slice A0_2 l0_2.length c0_2)] 51 (0,0))) ∧ Aside0 (Below w.heap.size w w'))
  case atStart => exact ⟨(y503),(0),qq298,H',⟨Nat.le_refl _⟩,⟨by (with_reducible repeat (first | apply kA | apply kN | apply kD));exact Kd.R_mono HO505.out (fun _ hk => hk.2)⟩,⟨by (with_reducible repeat (first | apply kA | apply kN | apply kD));exact Kd.R_mono HO509.out (fun _ hk => hk.2)⟩,⟨qq217⟩,⟨qq159⟩⟩
  case round =>
   clear H'
   try clear c1
   try clear p2
   try clear c5
   try clear c10
   try clear c12
   try clear c13
   try clear hcz10_0
   try clear hcz10_1
   try clear hcz10_2
   try clear hcz12_0
   try clear hcz12_1
   try clear hcz12_2
   try clear hfz10_0
   try clear hfz10_1
   try clear hfz10_2
   try clear hfz12_0
   try clear hfz12_1
   try clear hfz12_2
   obtain ⟨x7_1,x9_1,rfl,HA,HK1,HO_7,HO_8,BK502,HB⟩:=hrel
   cases gk with
   | zero => exact absurd HA.out (by simp [spec_Reach.l0])
   | succ k1 =>
    have H:=HA.out;clear HA;simp only [spec_Reach.l0] at H
    by_cases c14 : x9_1 < (t507.length : Int)
    ·rw [if_pos c14] at H;have c14b0 : decide (x9_1 < (t507.length : Int)) = true:=decide_eq_true c14;clear c14
     by_cases c15 : 0 ≤ x9_1
     ·rw [if_pos c15] at H;have c15b0 : decide (0 ≤ x9_1) = true:=decide_eq_true c15;clear c15
      by_cases c16 : (rd t507 x9_1) ≥ 0
      ·rw [if_pos c16] at H;have c16b0 : decide (0 ≤ (rd t507 x9_1)) = true:=decide_eq_true c16;clear c16
       by_cases c17 : (rd t507 x9_1) ≤ a2
       ·rw [if_pos c17] at H;have c17b0 : decide ((rd t507 x9_1) ≤ a2) = true:=decide_eq_true c17;clear c17
        by_cases c18 : x7_1.length < 17592186044416
        ·rw [if_pos c18] at H;have LMc18:=am c18;clear c18;obtain ⟨y512,hy512⟩ : ∃ y_ : List Int,y_ = (x7_1 ++ [x9_1]):=⟨_,rfl⟩
         replace H : (spec_Reach.l0 k1 a2 y512 t507 (wrap64 (x9_1 + 1))) = some r:=by first | (rw [hy512];with_reducible exact H) | (have H2_:=(Option.bind_some _ _).symm.trans H;rw [hy512];with_reducible exact H2_) | (have H2_:=(Option.bind_some _ _).symm.trans H;with_reducible exact H2_) | with_reducible exact H | (rw [hy512];exact H) | exact H
         have Ny512:=am hy512;clear hy512;have H':=am H;clear H;obtain ⟨Ao19,co19,eo19⟩:=Kd.R_slice HO_8.out;subst eo19;have p510 : 0 ≤ (x9_1 : Int):=odt qq296;have q510 : x9_1 < (t507.length : Int):=odt qq296;obtain ⟨ad510,e510,hx510_0⟩:=Kd.at_int (Kd.R_reads' HO_8.out).2.2 x9_1 p510 q510
         cases e510
         replace p510:=eq_true p510;replace q510:=eq_true q510;have p511 : 0 ≤ (x9_1 : Int):=odt qq296;have q511 : x9_1 < (t507.length : Int):=odt qq296;obtain ⟨ad511,e511,hx511_0⟩:=Kd.at_int (Kd.R_reads' HO_8.out).2.2 x9_1 p511 q511;obtain rfl : ad510 = ad511:=(by injection e511)
         replace p511:=eq_true p511;replace q511:=eq_true q511;go_wp2_with (first | ((with_reducible refine gate_builtin (b:=.append) (xs:=#[.tmp 38,.tmp 40]) rfl ?_);at_builtin;refine Kd.R_append (Kd.int .i64) (w0:=w) w.heap.size rfl (.tmp 38) (.tmp 40) 49 3 (.int .i64 0) 8 rfl Try.underlying49 info3 rfl (by decide) (by omega) u7 x7_1 x9_1 [.int .i64 x9_1] (fun k_ => some k_ ≠ (.slice (some ad510) t507.length co19 : Value).ownBlock) (fun _ => False) rfl rfl ?aP (fun _ hk => hk.elim) ?aF ?aO ?aB ?aS ?aL ?_;(case aP => exact rfl);(case aB => exact qq159);(case aF => exact (fun k_ hk => Kd.fresh' (Kd.R_lt qq287) k_ hk));(case aO => exact qq248);(case aS => exact (below_size qq159));(case aL => have:=LMc18.out;omega);intro v513 w20 ho hb hg hat;rw [← Ny512.out] at ho;replace HO_8:=am (Kd.R_after (ok:=(fun _ => True)) (by (with_reducible repeat (first | apply kA | apply kN | apply kD));exact Kd.R_mono HO_8.out (fun _ hk => ⟨trivial,hk⟩)) hg hat);replace BK502:=am (blk_grown (g:=gb502) (o:=.cells #[.int .i64 a0_0,.int .i64 a0_1,.slice A0_2 l0_2.length c0_2] 51 (0,0)) qq217 hg (Kd.R_ne HO_7.out BK502.out (by decide)));replace HB:=am (hb);have HO514:=am (ho);clear HO_7;clear ho hb hg hat))
         go_roundg k1
         case measure => have:=HK1.out;omega
         case rel => exact ⟨(y512),(wrap64 (x9_1 + 1)),qq298,H',⟨qq307⟩,⟨by (with_reducible repeat (first | apply kA | apply kN | apply kD));exact HO514.out⟩,⟨by (with_reducible repeat (first | apply kA | apply kN | apply kD));exact Kd.R_mono HO_8.out (fun _ hk => hk.2)⟩,⟨qq217⟩,⟨qq159⟩⟩
        ·rw [if_neg c18] at H;exact absurd H (by simp)
       ·rw [if_neg c17] at H;have c17b0 : decide ((rd t507 x9_1) ≤ a2) = false:=decide_eq_false c17;clear c17;have H':=am H;clear H;obtain ⟨Ao21,co21,eo21⟩:=Kd.R_slice HO_8.out;subst eo21;have p510 : 0 ≤ (x9_1 : Int):=odt qq296;have q510 : x9_1 < (t507.length : Int):=odt qq296;obtain ⟨ad510,e510,hx510_0⟩:=Kd.at_int (Kd.R_reads' HO_8.out).2.2 x9_1 p510 q510
        cases e510
        replace p510:=eq_true p510;replace q510:=eq_true q510;have p511 : 0 ≤ (x9_1 : Int):=odt qq296;have q511 : x9_1 < (t507.length : Int):=odt qq296;obtain ⟨ad511,e511,hx511_0⟩:=Kd.at_int (Kd.R_reads' HO_8.out).2.2 x9_1 p511 q511;obtain rfl : ad510 = ad511:=(by injection e511)
        replace p511:=eq_true p511;replace q511:=eq_true q511;go_wp2
        go_roundg k1
        case measure => have:=HK1.out;omega
        case rel => exact ⟨(x7_1),(wrap64 (x9_1 + 1)),qq298,H',⟨qq307⟩,⟨qq288⟩,⟨qq287⟩,⟨qq217⟩,⟨qq159⟩⟩
      ·rw [if_neg c16] at H;have c16b0 : decide (0 ≤ (rd t507 x9_1)) = false:=decide_eq_false c16;clear c16;have H':=am H;clear H;obtain ⟨Ao22,co22,eo22⟩:=Kd.R_slice HO_8.out;subst eo22;have p510 : 0 ≤ (x9_1 : Int):=odt qq296;have q510 : x9_1 < (t507.length : Int):=odt qq296;obtain ⟨ad510,e510,hx510_0⟩:=Kd.at_int (Kd.R_reads' HO_8.out).2.2 x9_1 p510 q510
       cases e510
       replace p510:=eq_true p510;replace q510:=eq_true q510;go_wp2
       go_roundg k1
       case measure => have:=HK1.out;omega
       case rel => exact ⟨(x7_1),(wrap64 (x9_1 + 1)),qq298,H',⟨qq307⟩,⟨qq288⟩,⟨qq287⟩,⟨qq217⟩,⟨qq159⟩⟩
     ·rw [if_neg c15] at H;exact absurd H (by simp)
    ·rw [if_neg c14] at H;have c14b0 : decide (x9_1 < (t507.length : Int)) = false:=decide_eq_false c14;clear c14;obtain rfl:=Option.some.inj H;obtain ⟨Ao23,co23,eo23⟩:=Kd.R_slice HO_8.out;subst eo23;go_wp2
     go_ret
     exact ⟨_,qq244,qq184,qq159⟩
 ·replace c5:=Bool.eq_false_iff.mpr c5;subst c5;have H1 : (some y503) = some r:=by rw [if_neg (show ¬ (false = true) by decide)] at H;exact H
  clear H;have H:=H1;clear H1;obtain rfl:=Option.some.inj H
  go_enter Try.func128,Try.ntmps128
  go_wp2_with (first | ((with_reducible refine gate_dst (N:=3) rfl ?_);refine box_event ?hg (N:=3) ?hd (cs:=#[.int .i64 a0_0,.int .i64 a0_1,.slice A0_2 l0_2.length c0_2]) (t:=51) ?hr ?_;(case hd => rfl);(case hg => rfl);(case hr => exact qq299);intro gb502 hg w24 hbox hb;have BK502:=am (hbox);have GW502:=am ((qq153 : w.heap.size ≤ gb502));have GE502:=am ((qq153 : w.heap.size ≤ gb502));replace HB:=am (below_step qq189 hb);clear hb hbox hg) | ((with_reducible refine gate_dst (N:=10) rfl ?_);refine Kd.R_lit (Kd.int .i64) _ 3 ?hg (N:=10) ?hd (xs:=([] : List Int)) (inner:=[]) (ok:=fun _ => True) (okp:=fun _ => True) ?hr ?hp (fun _ hk => hk) trivial (Below.refl _ _) (Nat.le_refl _) (by simp) ?_;(case hd => rfl);(case hg => rfl);(case hr => exact qq299);(case hp => exact qq306);intro v504 w25 ho26 hb hg_ hnew_;clear hg_ hnew_;(first | rw [← Ny503.out] at ho26 | (simp only [Int.reduceToNat] at ho26;rw [← Ny503.out] at ho26));have HO505:=am (Kd.R_lower ho26 (below_size qq159));replace BK502:=am (blk_below (g:=gb502) (o:=.cells #[.int .i64 a0_0,.int .i64 a0_1,.slice A0_2 l0_2.length c0_2] 51 (0,0)) qq217 hb);replace HB:=am (below_step qq159 hb);clear hb ho26;obtain ⟨hcz27_0,hcz27_1,hcz27_2,hfz27_0,hfz27_1,hfz27_2⟩:=bcl3 BK502.out) | ((with_reducible refine gate_callee (f:=105) rfl ?_);refine goesL_ (some 13) rfl rfl Try.func105 (by kernel_rfl) rfl #[.agg #[.int .i64 a0_0,.int .i64 a0_1,.slice A0_2 l0_2.length c0_2],.int .i64 a1] rfl qq177 ?_;(with_reducible refine (spec_IsOpen.calls k a0_0 a0_1 _ _ l0_2 a1 false _ ?side1 ?side2 A4.out).mono ?_);(case side1 => exact qq136);(case side2 => exact qq309);rintro e w28 ⟨rfl,hb⟩;refine ⟨_,rfl,?_⟩;replace HO505:=am (Kd.R_below qq267 hb);replace BK502:=am (blk_below (g:=gb502) (o:=.cells #[.int .i64 a0_0,.int .i64 a0_1,.slice A0_2 l0_2.length c0_2] 51 (0,0)) qq217 hb);replace HB:=am (below_step qq159 hb);(try clear hb);(try clear hb2);(try clear hk);(try clear hi)))
  go_ret
  exact ⟨_,qq244,qq267,qq159⟩

end Go.Proofs.Ytcbkknpmeknppaa.PFnWeathers
