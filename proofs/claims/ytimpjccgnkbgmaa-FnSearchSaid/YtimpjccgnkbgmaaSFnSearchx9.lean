/- Contracts of functions that the law FnSearch reaches, for its row: lines that the kit's printer wrote for this claim, set shorter by a program of this session (own.py), and what fell in Lean proved anew. Lean checks them. -/
import Derived.Test.YtimpjccgnkbgmaaSFnSearchx0
import Derived.Test.YtimpjccgnkbgmaaSFnSearchx1
import Derived.Test.YtimpjccgnkbgmaaSFnSearchx3
import Derived.Test.YtimpjccgnkbgmaaSFnSearchx6
import Derived.Test.YtimpjccgnkbgmaaSFnSearchx8
namespace Go.Proofs.Ytimpjccgnkbgmaa.PFnSearch
open Go.RowKit Go.Proofs.YtimpjccgnkbgmaaW.PrintWords Go.Proofs.YtimpjccgnkbgmaaW.PrintLast Go.Proofs.YtimpjccgnkbgmaaW.PrintMore
attribute [local go_sem] max2_int min2_int max_two min_two max_three min_three max_four min_four   -- for this text's walks alone
set_option linter.unusedVariables false
set_option linter.unusedSimpArgs false

/-! ### spec_Reach: function 34 -/
def spec_Reach.l0 : Nat → Int → List Int → List Int → Int → Option (List Int)
 | 0,_,_,_,_ => none
 | k + 1,x2,x7,x8,x9 => if x9 < (x8.length : Int) then (if 0 ≤ x9 then (if (rd x8 x9) ≥ 0 then (if (rd x8 x9) ≤ x2 then (if x7.length < 17592186044416 then (spec_Reach.l0 k x2 (x7 ++ [x9]) x8 (wrap64 (x9 + 1))) else (none)) else (spec_Reach.l0 k x2 x7 x8 (wrap64 (x9 + 1)))) else (spec_Reach.l0 k x2 x7 x8 (wrap64 (x9 + 1)))) else (none)) else (some x7)
def spec_Reach.f (k : Nat) (a0_0 : Int) (a0_1 : Int) (l0_2 : List Int) (a1 : Int) (a2 : Int) : Option (List Int) := (some (([] : List Int) : List Int)).bind fun y386 => ((spec_IsOpen.f k a0_0 a0_1 l0_2 a1).bind fun t389 => (if t389 = true then ((spec_l5From.f k a0_0 a0_1 l0_2 a1).bind fun t390 => (spec_Reach.l0 k a2 y386 t390 0)) else (some y386)))
set_option maxHeartbeats 8000000 in
set_option maxRecDepth 100000 in
theorem spec_Reach.calls (k : Nat) (a0_0 : Int) (a0_1 : Int) (A0_2 : Option Addr) (c0_2 : Nat) (l0_2 : List Int) (a1 : Int) (a2 : Int) (r : List Int) (w : World) (hr0_2 : Kd.C (Kd.int .i64) w A0_2 l0_2.length l0_2) (hc0_2 : l0_2.length ≤ c0_2) (h : spec_Reach.f k a0_0 a0_1 l0_2 a1 a2 = some r) :
  Calls Try.prog 34 #[.agg #[.int .i64 a0_0,.int .i64 a0_1,.slice A0_2 l0_2.length c0_2],.int .i64 a1,.int .i64 a2] w fun e w' => ∃ v0_ : Value,e = .returned (v0_) ∧ Kd.R (Kd.int .i64) 3 w' w.heap.size (fun _ => True) v0_ r ∧ Below w.heap.size w w':=by
 have hu26:=Try.underlying26;have HR0_2:=am hr0_2;have HC0_2:=am hc0_2;clear hr0_2 hc0_2;have HB:=am qq354;have H : ((some (([] : List Int) : List Int)).bind fun y386 => ((spec_IsOpen.f k a0_0 a0_1 l0_2 a1).bind fun t389 => (if t389 = true then ((spec_l5From.f k a0_0 a0_1 l0_2 a1).bind fun t390 => (spec_Reach.l0 k a2 y386 t390 0)) else (some y386)))) = some r:=h;clear h;obtain ⟨y386,hy386⟩ : ∃ y_ : List Int,y_ = (([] : List Int)):=⟨_,rfl⟩
 replace H : ((spec_IsOpen.f k a0_0 a0_1 l0_2 a1).bind fun t389 => (if t389 = true then ((spec_l5From.f k a0_0 a0_1 l0_2 a1).bind fun t390 => (spec_Reach.l0 k a2 y386 t390 0)) else (some y386))) = some r:=by first | (rw [hy386];with_reducible exact H) | (have H2_:=(Option.bind_some _ _).symm.trans H;rw [hy386];with_reducible exact H2_) | (have H2_:=(Option.bind_some _ _).symm.trans H;with_reducible exact H2_) | with_reducible exact H | (rw [hy386];exact H) | exact H
 have Ny386:=am hy386;clear hy386;replace H:=bS.mp H;obtain ⟨t389,A40,H⟩:=H;replace H : (if t389 = true then ((spec_l5From.f k a0_0 a0_1 l0_2 a1).bind fun t390 => (spec_Reach.l0 k a2 y386 t390 0)) else (some y386)) = some r:=H;have A4:=am A40;clear A40
 by_cases c5 : t389 = true
 ·subst c5;have H1 : ((spec_l5From.f k a0_0 a0_1 l0_2 a1).bind fun t390 => (spec_Reach.l0 k a2 y386 t390 0)) = some r:=by rw [if_pos rfl] at H;exact H
  clear H;have H:=H1;clear H1;replace H:=bS.mp H;obtain ⟨t390,A60,H⟩:=H;replace H : (spec_Reach.l0 k a2 y386 t390 0) = some r:=H;have A6:=am A60;clear A60;have H':=am H;clear H
  go_enter Try.func34,Try.ntmps34
  go_wp2_with (first | ((with_reducible refine gate_dst (N:=3) rfl ?_);refine box_event ?hg (N:=3) ?hd (cs:=#[.int .i64 a0_0,.int .i64 a0_1,.slice A0_2 l0_2.length c0_2]) (t:=26) ?hr ?_;(case hd => rfl);(case hg => rfl);(case hr => exact qq261);intro gb385 hg w7 hbox hb;have BK385:=am (hbox);have GW385:=am qq350;have GE385:=am qq350;replace HB:=am qq358;clear hb hbox hg) | ((with_reducible refine gate_dst (N:=10) rfl ?_);refine Kd.R_lit (Kd.int .i64) _ 3 ?hg (N:=10) ?hd (xs:=([] : List Int)) (inner:=[]) (ok:=fun _ => True) (okp:=fun _ => True) ?hr ?hp (fun _ hk => hk) trivial (Below.refl _ _) (Nat.le_refl _) (by simp) ?_;(case hd => rfl);(case hg => rfl);(case hr => exact qq261);(case hp => exact qq274);intro v387 w8 ho9 hb hg_ hnew_;clear hg_ hnew_;(first | rw [← Ny386.out] at ho9 | (simp only [Int.reduceToNat] at ho9;rw [← Ny386.out] at ho9));have HO388:=am (Kd.R_lower ho9 (below_size qq122));replace BK385:=am qq310;replace HB:=am (below_step qq122 hb);clear hb ho9;obtain ⟨hcz10_0,hcz10_1,hcz10_2,hfz10_0,hfz10_1,hfz10_2⟩:=bcl3 BK385.out) | ((with_reducible refine gate_callee (f:=46) rfl ?_);refine goesL_ (some 13) rfl rfl Try.func46 (by kernel_rfl) rfl #[.agg #[.int .i64 a0_0,.int .i64 a0_1,.slice A0_2 l0_2.length c0_2],.int .i64 a1] rfl qq139 ?_;(with_reducible refine (spec_IsOpen.calls k a0_0 a0_1 _ _ l0_2 a1 true _ ?side1 ?side2 A4.out).mono ?_);(case side1 => exact qq83);(case side2 => exact qq276);rintro e w11 ⟨rfl,hb⟩;refine ⟨_,rfl,?_⟩;replace HO388:=am (Kd.R_below qq237 hb);replace BK385:=am qq310;replace HB:=am (below_step qq122 hb);(try clear hb);(try clear hb2);(try clear hk);(try clear hi);obtain ⟨hcz12_0,hcz12_1,hcz12_2,hfz12_0,hfz12_1,hfz12_2⟩:=bcl3 BK385.out) | ((with_reducible refine gate_callee (f:=47) rfl ?_);refine goesL_ (some 18) rfl rfl Try.func47 (by kernel_rfl) rfl #[.agg #[.int .i64 a0_0,.int .i64 a0_1,.slice A0_2 l0_2.length c0_2],.int .i64 a1] rfl qq139 ?_;(with_reducible refine (spec_l5From.calls k a0_0 a0_1 _ _ l0_2 a1 t390 _ ?side1 ?side2 A6.out).mono ?_);(case side1 => exact qq83);(case side2 => exact qq276);rintro e w13 ⟨v391,rfl,ho0,hb⟩;refine ⟨_,rfl,?_⟩;have HO392:=am (Kd.R_lower (Kd.R_new' ho0 (Kd.R_lt qq237)) (below_size qq122));replace HO388:=am (Kd.R_elder' qq237 (Kd.R_base ho0) hb);replace BK385:=am qq310;replace HB:=am (below_step qq122 hb);(try clear hb);(try clear hb2);(try clear hk);(try clear hi);(try clear ho0)))
  go_loopg [7,9] k (fun kq v7 v9 w' => ∃ (x7_1 : List Int) (x9_1 : Int),v9 = .int .i64 x9_1 ∧ Aside0 (spec_Reach.l0 kq a2 x7_1 t390 x9_1 = some r) ∧ Aside0 (kq ≤ k) ∧ Aside0 (Kd.R (Kd.int .i64) 3 w' w.heap.size (fun k_ => some k_ ≠ (v391 : Value).ownBlock) v7 x7_1) ∧ Aside0 (Kd.R (Kd.int .i64) 3 w' w.heap.size (fun k_ => some k_ ≠ (v7 : Value).ownBlock) v391 t390) ∧ Aside0 (w'.heap[gb385]? = some (.cells #[.int .i64 a0_0,.int .i64 a0_1,(.slice A0_2 l0_2.length c0_2)] 26 (0,0))) ∧ Aside0 (Below w.heap.size w w'))
  case atStart => exact ⟨(y386),(0),qq260,H',⟨Nat.le_refl _⟩,⟨by (with_reducible repeat (first | apply kA | apply kN | apply kD));exact Kd.R_mono HO388.out (fun _ hk => hk.2)⟩,⟨by (with_reducible repeat (first | apply kA | apply kN | apply kD));exact Kd.R_mono HO392.out (fun _ hk => hk.2)⟩,⟨qq194⟩,⟨qq122⟩⟩
  case round =>
   clear H'
   try clear p2
   try clear c3
   try clear c4
   try clear c5
   try clear hcz10_0
   try clear hcz10_1
   try clear hcz10_2
   try clear hcz12_0
   try clear hcz12_1
   try clear hcz12_2
   try clear hfz10_0
   try clear hfz10_1
   try clear hfz10_2
   try clear hfz12_0
   try clear hfz12_1
   try clear hfz12_2
   obtain ⟨x7_1,x9_1,rfl,HA,HK1,HO_7,HO_8,BK385,HB⟩:=hrel
   cases gk with
   | zero => exact absurd HA.out (by simp [spec_Reach.l0])
   | succ k1 =>
    have H:=HA.out;clear HA;simp only [spec_Reach.l0] at H
    by_cases c14 : x9_1 < (t390.length : Int)
    ·rw [if_pos c14] at H;have c14b0 : decide (x9_1 < (t390.length : Int)) = true:=decide_eq_true c14;clear c14
     by_cases c15 : 0 ≤ x9_1
     ·rw [if_pos c15] at H;have c15b0 : decide (0 ≤ x9_1) = true:=decide_eq_true c15;clear c15
      by_cases c16 : (rd t390 x9_1) ≥ 0
      ·rw [if_pos c16] at H;have c16b0 : decide (0 ≤ (rd t390 x9_1)) = true:=decide_eq_true c16;clear c16
       by_cases c17 : (rd t390 x9_1) ≤ a2
       ·rw [if_pos c17] at H;have c17b0 : decide ((rd t390 x9_1) ≤ a2) = true:=decide_eq_true c17;clear c17
        by_cases c18 : x7_1.length < 17592186044416
        ·rw [if_pos c18] at H;have LMc18:=am c18;clear c18;obtain ⟨y395,hy395⟩ : ∃ y_ : List Int,y_ = (x7_1 ++ [x9_1]):=⟨_,rfl⟩
         replace H : (spec_Reach.l0 k1 a2 y395 t390 (wrap64 (x9_1 + 1))) = some r:=by first | (rw [hy395];with_reducible exact H) | (have H2_:=(Option.bind_some _ _).symm.trans H;rw [hy395];with_reducible exact H2_) | (have H2_:=(Option.bind_some _ _).symm.trans H;with_reducible exact H2_) | with_reducible exact H | (rw [hy395];exact H) | exact H
         have Ny395:=am hy395;clear hy395;have H':=am H;clear H;obtain ⟨Ao19,co19,eo19⟩:=Kd.R_slice HO_8.out;subst eo19;have p393 : 0 ≤ (x9_1 : Int):=odt qq258;have q393 : x9_1 < (t390.length : Int):=odt qq258;obtain ⟨ad393,e393,hx393_0⟩:=Kd.at_int (Kd.R_reads' HO_8.out).2.2 x9_1 p393 q393
         cases e393
         replace p393:=eq_true p393;replace q393:=eq_true q393;have p394 : 0 ≤ (x9_1 : Int):=odt qq258;have q394 : x9_1 < (t390.length : Int):=odt qq258;obtain ⟨ad394,e394,hx394_0⟩:=Kd.at_int (Kd.R_reads' HO_8.out).2.2 x9_1 p394 q394;obtain rfl : ad393 = ad394:=(by injection e394)
         replace p394:=eq_true p394;replace q394:=eq_true q394;go_wp2_with (first | ((with_reducible refine gate_builtin (b:=.append) (xs:=#[.tmp 38,.tmp 40]) rfl ?_);at_builtin;refine Kd.R_append (Kd.int .i64) (w0:=w) w.heap.size rfl (.tmp 38) (.tmp 40) 24 3 (.int .i64 0) 8 rfl Try.underlying24 info3 rfl (by decide) (by omega) u7 x7_1 x9_1 [.int .i64 x9_1] (fun k_ => some k_ ≠ (.slice (some ad393) t390.length co19 : Value).ownBlock) (fun _ => False) rfl rfl ?aP (fun _ hk => hk.elim) ?aF ?aO ?aB ?aS ?aL ?_;(case aP => exact rfl);(case aB => exact qq122);(case aF => exact qq142);(case aO => exact qq219);(case aS => exact (below_size qq122));(case aL => have:=LMc18.out;omega);intro v396 w20 ho hb hg hat;rw [← Ny395.out] at ho;replace HO_8:=am (Kd.R_after (ok:=(fun _ => True)) qq150 hg hat);replace BK385:=am (blk_grown (g:=gb385) (o:=.cells #[.int .i64 a0_0,.int .i64 a0_1,.slice A0_2 l0_2.length c0_2] 26 (0,0)) qq194 hg (Kd.R_ne HO_7.out BK385.out (by decide)));replace HB:=am (hb);have HO397:=am (ho);clear HO_7;clear ho hb hg hat))
         go_roundg k1
         case measure => have:=HK1.out;omega
         case rel => exact ⟨(y395),(wrap64 (x9_1 + 1)),qq260,H',⟨qq275⟩,⟨by (with_reducible repeat (first | apply kA | apply kN | apply kD));exact HO397.out⟩,⟨qq160⟩,⟨qq194⟩,⟨qq122⟩⟩
        ·rw [if_neg c18] at H;exact absurd H (by simp)
       ·rw [if_neg c17] at H;have c17b0 : decide ((rd t390 x9_1) ≤ a2) = false:=decide_eq_false c17;clear c17;have H':=am H;clear H;obtain ⟨Ao21,co21,eo21⟩:=Kd.R_slice HO_8.out;subst eo21;have p393 : 0 ≤ (x9_1 : Int):=odt qq258;have q393 : x9_1 < (t390.length : Int):=odt qq258;obtain ⟨ad393,e393,hx393_0⟩:=Kd.at_int (Kd.R_reads' HO_8.out).2.2 x9_1 p393 q393
        cases e393
        replace p393:=eq_true p393;replace q393:=eq_true q393;have p394 : 0 ≤ (x9_1 : Int):=odt qq258;have q394 : x9_1 < (t390.length : Int):=odt qq258;obtain ⟨ad394,e394,hx394_0⟩:=Kd.at_int (Kd.R_reads' HO_8.out).2.2 x9_1 p394 q394;obtain rfl : ad393 = ad394:=(by injection e394)
        replace p394:=eq_true p394;replace q394:=eq_true q394;go_wp2
        go_roundg k1
        case measure => have:=HK1.out;omega
        case rel => exact ⟨(x7_1),(wrap64 (x9_1 + 1)),qq260,H',⟨qq275⟩,⟨qq249⟩,⟨qq248⟩,⟨qq194⟩,⟨qq122⟩⟩
      ·rw [if_neg c16] at H;have c16b0 : decide (0 ≤ (rd t390 x9_1)) = false:=decide_eq_false c16;clear c16;have H':=am H;clear H;obtain ⟨Ao22,co22,eo22⟩:=Kd.R_slice HO_8.out;subst eo22;have p393 : 0 ≤ (x9_1 : Int):=odt qq258;have q393 : x9_1 < (t390.length : Int):=odt qq258;obtain ⟨ad393,e393,hx393_0⟩:=Kd.at_int (Kd.R_reads' HO_8.out).2.2 x9_1 p393 q393
       cases e393
       replace p393:=eq_true p393;replace q393:=eq_true q393;go_wp2
       go_roundg k1
       case measure => have:=HK1.out;omega
       case rel => exact ⟨(x7_1),(wrap64 (x9_1 + 1)),qq260,H',⟨qq275⟩,⟨qq249⟩,⟨qq248⟩,⟨qq194⟩,⟨qq122⟩⟩
     ·rw [if_neg c15] at H;exact absurd H (by simp)
    ·rw [if_neg c14] at H;have c14b0 : decide (x9_1 < (t390.length : Int)) = false:=decide_eq_false c14;clear c14;obtain rfl:=Option.some.inj H;obtain ⟨Ao23,co23,eo23⟩:=Kd.R_slice HO_8.out;subst eo23;go_wp2
     go_ret
     exact ⟨_,qq216,qq156,qq122⟩
 ·replace c5:=Bool.eq_false_iff.mpr c5;subst c5;have H1 : (some y386) = some r:=by rw [if_neg (show ¬ (false = true) by decide)] at H;exact H
  clear H;have H:=H1;clear H1;obtain rfl:=Option.some.inj H
  go_enter Try.func34,Try.ntmps34
  go_wp2_with (first | ((with_reducible refine gate_dst (N:=3) rfl ?_);refine box_event ?hg (N:=3) ?hd (cs:=#[.int .i64 a0_0,.int .i64 a0_1,.slice A0_2 l0_2.length c0_2]) (t:=26) ?hr ?_;(case hd => rfl);(case hg => rfl);(case hr => exact qq261);intro gb385 hg w24 hbox hb;have BK385:=am (hbox);have GW385:=am qq350;have GE385:=am qq350;replace HB:=am qq358;clear hb hbox hg) | ((with_reducible refine gate_dst (N:=10) rfl ?_);refine Kd.R_lit (Kd.int .i64) _ 3 ?hg (N:=10) ?hd (xs:=([] : List Int)) (inner:=[]) (ok:=fun _ => True) (okp:=fun _ => True) ?hr ?hp (fun _ hk => hk) trivial (Below.refl _ _) (Nat.le_refl _) (by simp) ?_;(case hd => rfl);(case hg => rfl);(case hr => exact qq261);(case hp => exact qq274);intro v387 w25 ho26 hb hg_ hnew_;clear hg_ hnew_;(first | rw [← Ny386.out] at ho26 | (simp only [Int.reduceToNat] at ho26;rw [← Ny386.out] at ho26));have HO388:=am (Kd.R_lower ho26 (below_size qq122));replace BK385:=am qq310;replace HB:=am (below_step qq122 hb);clear hb ho26;obtain ⟨hcz27_0,hcz27_1,hcz27_2,hfz27_0,hfz27_1,hfz27_2⟩:=bcl3 BK385.out) | ((with_reducible refine gate_callee (f:=46) rfl ?_);refine goesL_ (some 13) rfl rfl Try.func46 (by kernel_rfl) rfl #[.agg #[.int .i64 a0_0,.int .i64 a0_1,.slice A0_2 l0_2.length c0_2],.int .i64 a1] rfl qq139 ?_;(with_reducible refine (spec_IsOpen.calls k a0_0 a0_1 _ _ l0_2 a1 false _ ?side1 ?side2 A4.out).mono ?_);(case side1 => exact qq83);(case side2 => exact qq276);rintro e w28 ⟨rfl,hb⟩;refine ⟨_,rfl,?_⟩;replace HO388:=am (Kd.R_below qq237 hb);replace BK385:=am qq310;replace HB:=am (below_step qq122 hb);(try clear hb);(try clear hb2);(try clear hk);(try clear hi)))
  go_ret
  exact ⟨_,qq216,qq237,qq122⟩

/-! ### spec_SearchArea: function 22 -/
def spec_SearchArea.f (k : Nat) (a0_0 : Int) (a0_1 : Int) (l0_2 : List Int) (a1 : Int) (a2 : Int) : Option (List Int) := (spec_Reach.f k a0_0 a0_1 l0_2 a1 a2).bind fun t399 => (some t399)
set_option maxHeartbeats 8000000 in
set_option maxRecDepth 100000 in
theorem spec_SearchArea.calls (k : Nat) (a0_0 : Int) (a0_1 : Int) (A0_2 : Option Addr) (c0_2 : Nat) (l0_2 : List Int) (a1 : Int) (a2 : Int) (r : List Int) (w : World) (hr0_2 : Kd.C (Kd.int .i64) w A0_2 l0_2.length l0_2) (hc0_2 : l0_2.length ≤ c0_2) (h : spec_SearchArea.f k a0_0 a0_1 l0_2 a1 a2 = some r) :
  Calls Try.prog 22 #[.agg #[.int .i64 a0_0,.int .i64 a0_1,.slice A0_2 l0_2.length c0_2],.int .i64 a1,.int .i64 a2] w fun e w' => ∃ v0_ : Value,e = .returned (v0_) ∧ Kd.R (Kd.int .i64) 3 w' w.heap.size (fun _ => True) v0_ r ∧ Below w.heap.size w w':=by
 have hu26:=Try.underlying26;have HR0_2:=am hr0_2;have HC0_2:=am hc0_2;clear hr0_2 hc0_2;have HB:=am qq354;have H : ((spec_Reach.f k a0_0 a0_1 l0_2 a1 a2).bind fun t399 => (some t399)) = some r:=h;clear h;replace H:=bS.mp H;obtain ⟨t399,A40,H⟩:=H;replace H : (some t399) = some r:=H;have A4:=am A40;clear A40;obtain rfl:=Option.some.inj H
 go_enter Try.func22,Try.ntmps22
 go_wp2_with (first | ((with_reducible refine gate_dst (N:=3) rfl ?_);refine box_event ?hg (N:=3) ?hd (cs:=#[.int .i64 a0_0,.int .i64 a0_1,.slice A0_2 l0_2.length c0_2]) (t:=26) ?hr ?_;(case hd => rfl);(case hg => rfl);(case hr => exact qq261);intro gb398 hg w5 hbox hb;have BK398:=am (hbox);have GW398:=am ((qq108 : w.heap.size ≤ gb398));have GE398:=am ((qq108 : w.heap.size ≤ gb398));replace HB:=am qq358;clear hb hbox hg;obtain ⟨hcz6_0,hcz6_1,hcz6_2,hfz6_0,hfz6_1,hfz6_2⟩:=bcl3 BK398.out) | ((with_reducible refine gate_callee (f:=34) rfl ?_);refine goesL_ (some 10) rfl rfl Try.func34 (by kernel_rfl) rfl #[.agg #[.int .i64 a0_0,.int .i64 a0_1,.slice A0_2 l0_2.length c0_2],.int .i64 a1,.int .i64 a2] rfl qq139 ?_;(with_reducible refine (spec_Reach.calls k a0_0 a0_1 _ _ l0_2 a1 a2 t399 _ ?side1 ?side2 A4.out).mono ?_);(case side1 => exact qq83);(case side2 => exact qq276);rintro e w7 ⟨v400,rfl,ho0,hb⟩;refine ⟨_,rfl,?_⟩;have HO401:=am (Kd.R_lower ho0 (below_size qq121));replace BK398:=am (blk_below (g:=gb398) (o:=.cells #[.int .i64 a0_0,.int .i64 a0_1,.slice A0_2 l0_2.length c0_2] 26 (0,0)) (by (with_reducible repeat (first | refine dN ?_ _ | refine dD ?_ | refine dA ?_ _));exact BK398.out) hb);replace HB:=am (below_step qq121 hb);(try clear hb);(try clear hb2);(try clear hk);(try clear hi);(try clear ho0)))
 go_ret
 exact ⟨_,qq216,by (with_reducible repeat (first | apply kA | apply kN | apply kD));exact HO401.out,qq121⟩

/-! ### spec_DrawSearchOrder: function 9 -/
def spec_DrawSearchOrder.f (k : Nat) (l0 : List Int) : Option (Int × Int × List Int × Int × List Int) := (spec_DrawReach.f k l0).bind fun bt403 => ((spec_l1New.f k l0).bind fun bt411 => ((spec_l1Below.f bt411.1 bt411.2.1 bt411.2.2 8).bind fun bt415 => ((spec_SearchArea.f k bt403.1 bt403.2.1 bt403.2.2.1 bt403.2.2.2.1 bt403.2.2.2.2).bind fun t418 => (some (bt403.1, bt403.2.1, bt403.2.2.1, bt415.1, t418)))))
def spec_DrawSearchOrder.T3 : Bool × List (List Nat × List Nat) := (true, [([], []), ([], []), ([1], [1]), ([], []), ([], []), ([], []), ([3, 4, 5, 2], [3, 4, 5]), ([0, 6, 0], [0]), ([2, 7, 0, 1, 2, 7], [2]), ([6, 8, 0, 1, 2, 3, 4, 5, 6, 7, 8], [6])])
def spec_DrawSearchOrder.B3 : List Nat := [0, 0, 2, 0, 0, 0, 62, 127, 255, 511]
theorem spec_DrawSearchOrder.tab3 : rtab .any (opsOf Try.f9 3) = spec_DrawSearchOrder.T3 := by kernel_rfl
theorem spec_DrawSearchOrder.bits3 : waitsOk spec_DrawSearchOrder.T3.2 spec_DrawSearchOrder.B3 = true := by kernel_rfl
set_option maxHeartbeats 8000000 in
set_option maxRecDepth 100000 in
theorem spec_DrawSearchOrder.calls (k : Nat) (A0 : Option Addr) (c0 : Nat) (l0 : List Int) (r1 : Int) (r2 : Int) (r3 : List Int) (r4 : Int) (r5 : List Int) (w : World) (hr0 : Kd.C (Kd.int .u8) w A0 l0.length l0) (hc0 : l0.length ≤ c0) (h : spec_DrawSearchOrder.f k l0 = some (r1, r2, r3, r4, r5)) :
  Calls Try.prog 9 #[.slice A0 l0.length c0] w fun e w' => ∃ v2_ v4_ : Value,e = .returned (.tuple #[.agg #[.int .i64 r1,.int .i64 r2,v2_],.int .i64 r4,v4_]) ∧ Kd.Q (Kd.int .i64) 3 w' w.heap.size (fun k_ => some k_ ≠ (v4_ : Value).ownBlock) v2_ r3 ∧ Kd.R (Kd.int .i64) 3 w' w.heap.size (fun k_ => some k_ ≠ (v2_ : Value).ownBlock) v4_ r5 ∧ Below w.heap.size w w':=by
 have hu26:=Try.underlying26;have HR0:=am hr0;have HC0:=am hc0;clear hr0 hc0;have HB:=am qq354;have H : ((spec_DrawReach.f k l0).bind fun bt403 => ((spec_l1New.f k l0).bind fun bt411 => ((spec_l1Below.f bt411.1 bt411.2.1 bt411.2.2 8).bind fun bt415 => ((spec_SearchArea.f k bt403.1 bt403.2.1 bt403.2.2.1 bt403.2.2.2.1 bt403.2.2.2.2).bind fun t418 => (some (bt403.1,bt403.2.1,bt403.2.2.1,bt415.1,t418)))))) = some (r1,r2,r3,r4,r5):=h;clear h;replace H:=bS.mp H;obtain ⟨⟨t403,t404,t405,t408,t409⟩,A20,H⟩:=H;replace H : ((spec_l1New.f k l0).bind fun bt411 => ((spec_l1Below.f bt411.1 bt411.2.1 bt411.2.2 8).bind fun bt415 => ((spec_SearchArea.f k t403 t404 t405 t408 t409).bind fun t418 => (some (t403,t404,t405,bt415.1,t418))))) = some (r1,r2,r3,r4,r5):=H;have A2:=am A20;clear A20;replace H:=bS.mp H;obtain ⟨⟨t411,t412,t413⟩,A30,H⟩:=H;replace H : ((spec_l1Below.f t411 t412 t413 8).bind fun bt415 => ((spec_SearchArea.f k t403 t404 t405 t408 t409).bind fun t418 => (some (t403,t404,t405,bt415.1,t418)))) = some (r1,r2,r3,r4,r5):=H;have A3:=am A30;clear A30;replace H:=bS.mp H;obtain ⟨⟨t415,t416,t417⟩,A40,H⟩:=H;replace H : ((spec_SearchArea.f k t403 t404 t405 t408 t409).bind fun t418 => (some (t403,t404,t405,t415,t418))) = some (r1,r2,r3,r4,r5):=H;have A4:=am A40;clear A40;replace H:=bS.mp H;obtain ⟨t418,A50,H⟩:=H;replace H : (some (t403,t404,t405,t415,t418)) = some (r1,r2,r3,r4,r5):=H;have A5:=am A50;clear A50;simp only [Option.some.injEq,Prod.mk.injEq] at H;obtain ⟨rfl,rfl,rfl,rfl,rfl⟩:=H
 go_enter Try.func9,Try.ntmps9
 try go_wp2_with (first | ((with_reducible refine gate_dst (N:=2) rfl ?_);refine box_event ?hg (N:=2) ?hd (cs:=#[.int .i64 0,.int .i64 0,.slice none 0 0]) (t:=26) ?hr ?_;(case hd => rfl);(case hg => rfl);(case hr => exact qq261);intro gb402 hg w6 hbox hb;have BK402:=am (hbox);have GW402:=am ((qq108 : w.heap.size ≤ gb402));have GE402:=am ((qq108 : w.heap.size ≤ gb402));replace HB:=am qq358;clear hb hbox hg) | ((with_reducible refine gate_callee (f:=16) rfl ?_);refine goesL_ (some 11) rfl rfl Try.func16 (by kernel_rfl) rfl #[.slice A0 l0.length c0] rfl qq139 ?_;(with_reducible refine (spec_DrawReach.calls k _ _ l0 t403 t404 t405 t408 t409 _ ?side1 ?side2 A2.out).mono ?_);(case side1 => exact qq95);(case side2 => exact HC0.out);rintro e w7 ⟨v406,rfl,ho0,hb⟩;refine ⟨_,rfl,?_⟩;have HO407:=am (Kd.Q_lower ho0 (below_size qq120));replace BK402:=am qq327;replace HB:=am (below_step qq120 hb);(try clear hb);(try clear hb2);(try clear hk);(try clear hi);(try clear ho0)) | ((with_reducible refine gate_dst (N:=5) rfl ?_);refine box_event ?hg (N:=5) ?hd (cs:=#[.int .i64 0,.int .i64 0,.slice none 0 0]) (t:=26) ?hr ?_;(case hd => rfl);(case hg => rfl);(case hr => exact qq261);intro gb410 hg w8 hbox hb;replace HO407:=am (Kd.Q_below qq172 hb);have BK410:=am (hbox);have GW410:=am ((qq67 : w.heap.size ≤ gb410));have GE410:=am ((qq67 : w.heap.size ≤ gb410));replace HB:=am (below_step qq120 hb);have NB402_410:=am ((by rw [hg];exact Nat.ne_of_lt (blk_lt (g:=gb402) (o:=.cells #[.int .i64 0,.int .i64 0,.slice none 0 0] 26 (0,0)) qq193) : gb402 ≠ gb410));have NB410_402:=am ((by rw [hg];exact Nat.ne_of_gt (blk_lt (g:=gb402) (o:=.cells #[.int .i64 0,.int .i64 0,.slice none 0 0] 26 (0,0)) qq193) : gb410 ≠ gb402));replace BK402:=am qq327;clear hb hbox hg;have hnb9:=NB410_402.out;have hnc9:=NB402_410.out;obtain ⟨hcz10_0,hcz10_1,hcz10_2,hfz10_0,hfz10_1,hfz10_2⟩:=bcl3 BK410.out;obtain ⟨Ao11,co11,eo11,_⟩:=Kd.Q_slice HO407.out;subst eo11) | ((with_reducible refine gate_callee (f:=20) rfl ?_);refine goesL_ (some 16) rfl rfl Try.func20 (by kernel_rfl) rfl #[.slice A0 l0.length c0] rfl qq139 ?_;(with_reducible refine (spec_l1New.calls k _ _ l0 t411 t412 t413 w _ ?side1 ?side2 ?side3 A3.out).mono ?_);(case side1 => repeat (first | (with_reducible first | exact HB.out | apply bA | apply bN | apply bD | refine below_set ?_ GE402.out | refine below_set ?_ GE410.out) | exact HB.out));(case side2 => exact HR0.out);(case side3 => exact HC0.out);rintro e w12 ⟨g414,rfl,hi,hb,hb2⟩;refine ⟨_,rfl,?_⟩;replace HO407:=am (Kd.Q_below (by (with_reducible repeat (first | apply Kd.Q_alloc | apply Kd.Q_drewN | apply Kd.Q_drew));exact (Kd.Q_mono (Kd.Q_far (p:=⟨gb410,2,none⟩) (Kd.Q_far (p:=⟨gb410,1,none⟩) (Kd.Q_far (p:=⟨gb410,0,none⟩) (Kd.Q_types HO407.out BK410.out (by decide)) (fun _ hk => hk.2) (.int .i64 t403)) (fun _ hk => hk.2) (.int .i64 t404)) (fun _ hk => hk.2) (.slice Ao11 t405.length co11)) (fun _ h_ => h_.1))) hb2);replace HB:=am (hb);have HI414:=am (hi);have NB414_402:=am (IsS58.ne_blk hi (blk_below (g:=gb402) (o:=.cells #[.int .i64 0,.int .i64 0,.slice none 0 0] 26 (0,0)) qq11 hb2) (by decide));have NB402_414:=am (Ne.symm (IsS58.ne_blk hi (blk_below (g:=gb402) (o:=.cells #[.int .i64 0,.int .i64 0,.slice none 0 0] 26 (0,0)) qq11 hb2) (by decide)));replace BK402:=am (blk_below (g:=gb402) (o:=.cells #[.int .i64 0,.int .i64 0,.slice none 0 0] 26 (0,0)) qq11 hb2);have NB414_410:=am (IsS58.ne_blk hi (blk_below (g:=gb410) (o:=.cells #[.int .i64 t403,.int .i64 t404,.slice Ao11 t405.length co11] 26 (0,0)) qq5 hb2) (by decide));have NB410_414:=am (Ne.symm (IsS58.ne_blk hi (blk_below (g:=gb410) (o:=.cells #[.int .i64 t403,.int .i64 t404,.slice Ao11 t405.length co11] 26 (0,0)) qq5 hb2) (by decide)));replace BK410:=am (blk_below (g:=gb410) (o:=.cells #[.int .i64 t403,.int .i64 t404,.slice Ao11 t405.length co11] 26 (0,0)) qq5 hb2);(try clear hb);(try clear hb2);(try clear hk);(try clear hi)))
 replace HO407:=am (Kd.Q_drew HO407.out);replace BK402:=am (blk_drew BK402.out);replace BK410:=am (blk_drew BK410.out);replace HI414:=am (IsS58.drew HI414.out);replace HB:=am qq374;refine start_ (n:=10) (S:=fun w' => w'.cell? ⟨gb410,0,none⟩ = some (.int .i64 t403) ∧ w'.cell? ⟨gb410,1,none⟩ = some (.int .i64 t404) ∧ w'.cell? ⟨gb410,2,none⟩ = some (.slice Ao11 t405.length co11)) (ds:=[]) #[Z,Z,Z,Z,Z,Z,Z,Z,Z,Z] (by kernel_rfl) rfl rfl ⟨(blk_cell BK410.out 0).trans rfl,(blk_cell BK410.out 1).trans rfl,(blk_cell BK410.out 2).trans rfl⟩ (fun hHeld => ?_);refine with_tabW spec_DrawSearchOrder.tab3 spec_DrawSearchOrder.bits3 (fun HT_ HW_ => ?_)
 generalize w12.drew = w13 at HO407 BK402 BK410 HI414 HB hHeld ⊢
 refine pV (i:=1) (N:=some 18) #[Z,Y,Z,Z,Z,Z,Z,Z,Z,Z] rfl rfl qT ?_
 refine pV (i:=4) (N:=some 21) #[Z,Y,Z,Z,Y,Z,Z,Z,Z,Z] rfl rfl qT ?_
 refine pV (i:=5) (N:=some 22) #[Z,Y,Z,Z,Y,Y,Z,Z,Z,Z] rfl rfl qT ?_
 refine tV3 (i:=0) (N:=some 17) #[Y,Y,Z,Z,Y,Y,Z,Z,Z,Z] rfl rfl (take_ofW HT_.out HW_.out (by kernel_rfl)) hHeld ?_
 refine tV3 (i:=3) (N:=some 20) #[Y,Y,Z,Y,Y,Y,Z,Z,Z,Z] rfl rfl (take_ofW HT_.out HW_.out (by kernel_rfl)) hHeld ?_
 refine one_ (i:=2) (N:=some 19) #[Y,Y,Y,Y,Y,Y,Z,Z,Z,Z] rfl rfl (one_of HT_.out (by kernel_rfl)) (by decide) (fun K hK => ?_);refine goes_ Try.func21 (by kernel_rfl) rfl #[.pointer (some ⟨g414,0,none⟩),.int .i64 8] (by rfl) rfl rfl qq139 ?_;with_reducible refine (spec_l1Below.calls g414 t411 t412 t413 8 t415 t416 t417 w _ ?side1 ?side2 A4.out).mono ?_
 (case side1 => exact qq29);(case side2 => exact qq47)
 rintro e w14 ⟨rfl,hi,hb,hk⟩
 refine ⟨_,rfl,?_⟩;replace BK402:=am (KeepBut.blk hk (g':=gb402) (o:=.cells #[.int .i64 0,.int .i64 0,.slice none 0 0] 26 (0,0)) qq193 NB402_414.out (by simp));replace HO407:=am (Kd.Q_mono (Kd.Q_keep (IsS58.apartQ (show IsS58 w _ g414 t411 t412 t413 from by repeat (first | (with_reducible first | exact HI414.out | apply IsS58.alloc | apply IsS58.drewN | apply IsS58.drew | apply IsS58.set_1 | apply IsS58.set_2 | refine IsS58.far ?_ NB414_402.out _ | refine IsS58.far ?_ NB414_410.out _) | exact HI414.out)) qq172 (by decide)) hk (fun _ h => h.2)) (fun _ h => h.1));replace BK410:=am (KeepBut.blk hk (g':=gb410) (o:=.cells #[.int .i64 t403,.int .i64 t404,.slice Ao11 t405.length co11] 26 (0,0)) qq192 NB410_414.out (by simp));replace HB:=am (hb);replace HI414:=am (hi);(try clear hb);(try clear hb2);(try clear hk);(try clear hi);refine hK.out _ _ ⟨(blk_cell BK410.out 0).trans rfl,(blk_cell BK410.out 1).trans rfl,(blk_cell BK410.out 2).trans rfl⟩ (fun hHeld => ?_);clear hK K;refine norm_ (a':=?_) ?_ ?_;rotate_left
 ·show Act.put _ (some 19) _ = _
  simp only [Act.put,sA,s0,s1,i64_w,i32_w];rfl
 refine one_ (i:=6) (N:=some 23) #[Y,Y,Y,Y,Y,Y,Y,Z,Z,Z] rfl rfl (one_of HT_.out (by kernel_rfl)) (by decide) (fun K hK => ?_);refine goes_ Try.func22 (by kernel_rfl) rfl #[.agg #[.int .i64 t403,.int .i64 t404,.slice Ao11 t405.length co11],.int .i64 t408,.int .i64 t409] (by rfl) rfl rfl qq139 ?_;with_reducible refine (spec_SearchArea.calls k t403 t404 _ _ t405 t408 t409 t418 _ ?side1 ?side2 A5.out).mono ?_
 (case side1 => repeat (first | exact (Kd.Q_reads' HO407.out).2.2 | (with_reducible refine cA ?_ _) | (with_reducible refine cN ?_ _) | (with_reducible refine cD ?_)));(case side2 => exact (Kd.Q_reads' HO407.out).2.1)
 rintro e w15 ⟨v419,rfl,ho0,hb⟩
 refine ⟨_,rfl,?_⟩;have HO420:=am (Kd.R_lower (Kd.R_new' ho0 (Kd.Q_lt qq172)) (below_size qq47));replace HO407:=am (Kd.Q_elder' qq172 (Kd.R_base ho0) hb);replace BK402:=am qq327;replace BK410:=am (blk_below (g:=gb410) (o:=.cells #[.int .i64 t403,.int .i64 t404,.slice Ao11 t405.length co11] 26 (0,0)) qq192 hb);replace HB:=am (below_step qq47 hb);replace HI414:=am (IsS58.below qq29 hb);(try clear hb);(try clear hb2);(try clear hk);(try clear hi);(try clear ho0);refine hK.out _ _ ⟨(blk_cell BK410.out 0).trans rfl,(blk_cell BK410.out 1).trans rfl,(blk_cell BK410.out 2).trans rfl⟩ (fun hHeld => ?_);clear hK K;refine norm_ (a':=?_) ?_ ?_;rotate_left
 ·show Act.put _ (some 23) _ = _
  simp only [Act.put,sA,s0,s1,i64_w,i32_w];rfl
 refine one_ (i:=7) (N:=none) #[Y,Y,Y,Y,Y,Y,Y,Y,Z,Z] rfl rfl (one_of HT_.out (by kernel_rfl)) (by decide) (fun K hK => ?_);have hs16 : w15.cell? ⟨gb402,0,none⟩ = some (.int .i64 0):=(blk_cell BK402.out 0).trans rfl;have hfs16:=blk_frozen BK402.out 0;have hns16_1:=NB410_402.out;have hms16_1:=NB402_410.out;have hs17 : w15.cell? ⟨gb402,1,none⟩ = some (.int .i64 0):=(blk_cell BK402.out 1).trans rfl;have hfs17:=blk_frozen BK402.out 1;have hns17_1:=NB410_402.out;have hms17_1:=NB402_410.out;have hs18 : w15.cell? ⟨gb402,2,none⟩ = some (.slice none 0 0):=(blk_cell BK402.out 2).trans rfl;have hfs18:=blk_frozen BK402.out 2;have hns18_1:=NB410_402.out;have hms18_1:=NB402_410.out;refine skip_ (w1:=?_) (by rfl) rfl ?_ ?_;rotate_left
 ·go_simp;rfl
 refine hK.out _ _ ⟨((cell_far (p:=⟨gb402,_,none⟩) NB410_402.out _).trans (((cell_far (p:=⟨gb402,_,none⟩) NB410_402.out _).trans (((cell_far (p:=⟨gb402,_,none⟩) NB410_402.out _).trans (hHeld.1)))))),((cell_far (p:=⟨gb402,_,none⟩) NB410_402.out _).trans (((cell_far (p:=⟨gb402,_,none⟩) NB410_402.out _).trans (((cell_far (p:=⟨gb402,_,none⟩) NB410_402.out _).trans (hHeld.2.1)))))),((cell_far (p:=⟨gb402,_,none⟩) NB410_402.out _).trans (((cell_far (p:=⟨gb402,_,none⟩) NB410_402.out _).trans (((cell_far (p:=⟨gb402,_,none⟩) NB410_402.out _).trans (hHeld.2.2))))))⟩ (fun hHeld => ?_);clear hK K;refine pV (i:=8) (N:=some 3) #[Y,Y,Y,Y,Y,Y,Y,Y,Y,Z] rfl rfl qT ?_
 refine pV (i:=9) (N:=some 4) #[Y,Y,Y,Y,Y,Y,Y,Y,Y,Y] rfl rfl qT ?_
 refine done_ (done_of HT_.out (by kernel_rfl)) ?_
 try go_wp2
 refine bodyPost_ret (results_ctt rfl _ _ gb402 26 #[.int .i64 t403,.int .i64 t404,.slice Ao11 t405.length co11] (0,0) _ rfl (by (with_reducible repeat (first | refine dN ?_ _ | refine dD ?_ | refine dA ?_ _));refine blk_put (cs:=#[.int .i64 t403,.int .i64 t404,.slice none 0 0]) ?_ 2 _ rfl;(with_reducible repeat (first | refine dN ?_ _ | refine dD ?_ | refine dA ?_ _));refine blk_put (cs:=#[.int .i64 t403,.int .i64 0,.slice none 0 0]) ?_ 1 _ rfl;(with_reducible repeat (first | refine dN ?_ _ | refine dD ?_ | refine dA ?_ _));refine blk_put (cs:=#[.int .i64 0,.int .i64 0,.slice none 0 0]) ?_ 0 _ rfl;(with_reducible repeat (first | refine dN ?_ _ | refine dD ?_ | refine dA ?_ _));exact BK402.out) Try.underlying26 rfl (by kernel_rfl)) rfl ?_;exact ⟨_,_,qq216,by (with_reducible repeat (first | apply Kd.Q_alloc | apply Kd.Q_drewN | apply Kd.Q_drew));exact Kd.Q_mono (Kd.Q_far (p:=⟨gb402,2,none⟩) (Kd.Q_far (p:=⟨gb402,1,none⟩) (Kd.Q_far (p:=⟨gb402,0,none⟩) (Kd.Q_types HO407.out BK402.out (by decide)) (fun _ hk => hk.2) (.int .i64 t403)) (fun _ hk => hk.2) (.int .i64 t404)) (fun _ hk => hk.2) (.slice Ao11 t405.length co11)) (fun _ hk => hk.1.2),by (with_reducible repeat (first | apply kA | apply kN | apply kD));exact Kd.R_mono (Kd.R_far (p:=⟨gb402,2,none⟩) (Kd.R_far (p:=⟨gb402,1,none⟩) (Kd.R_far (p:=⟨gb402,0,none⟩) (Kd.R_types HO420.out BK402.out (by decide)) (fun _ hk => hk.2) (.int .i64 t403)) (fun _ hk => hk.2) (.int .i64 t404)) (fun _ hk => hk.2) (.slice Ao11 t405.length co11)) (fun _ hk => hk.1.2),qq47⟩

section
open Go.Proofs.YtimpjccgnkbgmaaW.PrintWords.Kd
variable {P : Program}
theorem shift_run {W : World} (base : Nat) (t ty e : TypeId) (ht : P.underlying t = some (.slice e)) (hs : (P.info? e).map (·.size) = some 1)
  {g n c k k1 : Nat} {xs : List Int} {ok : Nat → Prop} (HO : (Kd.int .i64).R e W base ok (.slice (some ⟨g,0,none⟩) n c) xs) (hk1 : k1 = k + 1) (hk : k1 ≤ n) {A1 A2 : Option Addr}
  (hA1 : A1 = if c = k1 then some ⟨g,0,none⟩ else (some (⟨g,0,none⟩ : Addr)).map (·.add (k1 * 1))) (hA2 : A2 = if c = k then some ⟨g,0,none⟩ else (some (⟨g,0,none⟩ : Addr)).map (·.add (k * 1))) (c1 c2 : Nat) :
  ∃ w1,(Builtin.copy_ #[t,t] ty #[.slice A1 (n - k1) c1,.slice A2 (n - k) c2]).run P W = .ok (goInt ((n - k1 : Nat) : Int)) w1 ∧ (Kd.int .i64).R e w1 base ok (.slice (some ⟨g,0,none⟩) n c) (xs.take k1 ++ (xs.drop k).take (xs.length - k1)) ∧ W.grownBy w1 (some g):=by
 obtain ⟨hn,hnc,_⟩:=R_reads' HO
 by_cases he : k1 = n
 ·have h0 : n - k1 = 0:=by omega
  refine ⟨W,?_,?_,World.grownBy.refl W _⟩
  ·rw [h0]
   exact run_copy_none W t t ty e A1 A2 0 c1 (n - k) c2 ht hs (Nat.min_eq_right (Nat.zero_le _))
  ·rw [← hn,h0,List.take_zero,List.append_nil,List.take_of_length_le (by omega)]
   exact HO
 have hk2 : k + 1 < n:=by omega
 rw [if_neg (by omega)] at hA1 hA2
 subst hk1
 have e1 : A1 = some ⟨g,k + 1,none⟩:=by rw [hA1,Nat.mul_one,Option.map_some,add_at,Nat.zero_add]
 have e2 : A2 = some ⟨g,k,none⟩:=by rw [hA2,Nat.mul_one,Option.map_some,add_at,Nat.zero_add]
 subst e1;subst e2
 clear hA1 hA2
 have hown:=own_of_R HO
 rcases hown.2 with ⟨hv,_⟩ | ⟨g',cap',cur,hv,hb,hh,_,hcm,hcs,htake⟩
 ·cases hv
 injection hv with ha _ hc
 injection ha with ha
 injection ha with hg
 subst hg;subst hc
 rw [← hn,Nat.mul_one] at htake
 rw [Nat.mul_one] at hcs
 rw [← hn]
 have hel : (encs (Value.int .i64) xs).length = n:=by rw [encs_length,hn]
 obtain ⟨news,hnews⟩ : ∃ news,news = encs (Value.int .i64) ((xs.drop k).take (n - (k + 1))):=⟨_,rfl⟩
 have hnl : news.length = n - (k + 1):=by rw [hnews,encs_length,List.length_take,List.length_drop,← hn];omega
 have hcur : ∀ q,q < n → cur.toList[q]? = (encs (Value.int .i64) xs)[q]?:=by
  intro q hq
  rw [← htake,List.getElem?_take,if_pos hq]
 have hget : ∀ j v,news[j]? = some v → cur.toList[k + j]? = some v:=by
  intro j v hj
  have hjl : j < news.length:=(List.getElem?_eq_some_iff.1 hj).1
  rw [hcur _ (by omega),← hj,hnews]
  simp only [encs,List.getElem?_map,List.getElem?_take,List.getElem?_drop]
  rw [if_pos (by omega)]
 have hone : ∀ u ∈ news,u.oneCell' = true:=by
  intro u hu
  rw [hnews] at hu
  obtain ⟨x,_,rfl⟩:=List.mem_map.1 hu
  rfl
 have hrun:=run_copy_cells (P:=P) W t t ty e g (k + 1) (n - (k + 1)) c1 ⟨g,k,none⟩ (n - k) c2 news ht hs (by rw [hnl];exact (Nat.min_eq_right (by omega)).symm)
  (fun j v hj => by
   rw [add_at,cell_of_row W g _ cur e (0,0) hh,← Array.getElem?_toList]
   exact hget j v hj)
  (fun j hj => by rw [cell_of_row W g _ cur e (0,0) hh];simp;omega) (fun j _ => blk_frozen hh _) hone
 rw [hnl] at hrun
 have hfit : k + 1 + news.length ≤ cur.size:=by omega
 obtain ⟨cur',h3,h4,h5⟩:=setCells_row news (k + 1) W cur hh hfit
 obtain ⟨s1,s2,s3,s4⟩:=setCells_same g news (k + 1) W
 have hfar : ∀ k',k' ≠ g → (W.setCells g (k + 1) news).heap[k']? = W.heap[k']?:=fun k' hk' => setCells_far news _ k' hk'
 have hyl : (xs.take (k + 1) ++ (xs.drop k).take (n - (k + 1))).length = n:=by
  rw [List.length_append,List.length_take,List.length_take,List.length_drop,← hn];omega
 refine ⟨_,hrun,R_of_own ⟨by rw [encs_length,Nat.mul_one],.inr ⟨g,c,cur',by rw [hyl],hb,h3,by rw [hyl];omega,hcm,by rw [h4,Nat.mul_one];exact hcs,?_⟩⟩ (fun k' hk' => HO.1 k' hk'),⟨s1,s2,s3,by rw [s4];exact Nat.le_refl _,fun k' _ hk' => hfar k' (fun he => hk' (by rw [he]))⟩⟩
 rw [hyl,Nat.mul_one,h5]
 have h7 : cur.toList.take (k + 1) = (encs (Value.int .i64) xs).take (k + 1):=by
  rw [← htake,List.take_take,Nat.min_eq_left (by omega)]
 rw [h7,hnews]
 have h8 : (encs (Value.int .i64) xs).take (k + 1) ++ encs (Value.int .i64) ((xs.drop k).take (n - (k + 1))) = encs (Value.int .i64) (xs.take (k + 1) ++ (xs.drop k).take (n - (k + 1))):=by
  simp [encs]
 rw [h8]
 refine List.take_left' ?_
 rw [encs_length,hyl]
variable {ops : Array Oper} {rest : List Oper} {o : Oper} {a : Act} {Q : Exit → Act → World → Prop} {Kc : Act → World → Prop}
theorem shift_w_step {w0 W : World} (base : Nat) (hw : Region.wanted o (yielded ops a.tmps) = true) (s x : Operand) (t e : TypeId) (ho : o.op = .call { callee := .builtin .copy, args := #[s, x], argTypes := #[t, t] })
  (ht : P.underlying t = some (.slice e)) (hinfo : (P.info? e).map (·.size) = some 1) {g n c : Nat} (k1 k : Nat) {m1 m2 c1 c2 : Nat} {A1 A2 : Option Addr} {xs : List Int} {ok : Nat → Prop}
  (hs : a.eval s = .slice A1 m1 c1) (hx : a.eval x = .slice A2 m2 c2) (hA1 : A1 = if c = k1 then some ⟨g,0,none⟩ else (some (⟨g,0,none⟩ : Addr)).map (·.add (k1 * 1))) (hA2 : A2 = if c = k then some ⟨g,0,none⟩ else (some (⟨g,0,none⟩ : Addr)).map (·.add (k * 1)))
  (hm1 : m1 = n - k1) (hm2 : m2 = n - k) (hk1 : k1 = k + 1) (hk : k1 ≤ n)
  (HO : (Kd.int .i64).R e W base ok (.slice (some ⟨g,0,none⟩) n c) xs) (HB : Below base w0 W) (hbase : base ≤ W.heap.size)
  (h : ∀ w1,(Kd.int .i64).R e w1 base ok (.slice (some ⟨g,0,none⟩) n c) (xs.take k1 ++ (xs.drop k).take (xs.length - k1)) → Below base w0 w1 → W.grownBy w1 (some g) → Kc (a.put o.dst (goInt ((n - k1 : Nat) : Int))) w1) :
  if Region.wanted o (yielded ops a.tmps) = true then Oper.wp P o a W Kc Q else Kc (a.put o.dst undef) W:=by
 subst hm1;subst hm2
 obtain ⟨w1,hr,h1,h2⟩:=shift_run (P:=P) base t o.type e ht hinfo HO hk1 hk hA1 hA2 c1 c2
 rw [if_pos hw]
 unfold Oper.wp execOp
 simp only [ho,resolve,invoke,builtin,Sem.run_bind,Sem.run_pure,Result.andThen_ok,List.map_toArray,List.map_cons,List.map_nil,hs,hx,hr]
 exact h w1 h1 (HB.grown h2 hbase (fun k hk => by injection hk with hk;subst hk;exact R_base HO _ (by simp [Value.ownBlock]))) h2
end

end Go.Proofs.Ytimpjccgnkbgmaa.PFnSearch
