/- Contracts of functions that the law FnExactPlanFood reaches, for its row: lines that the kit's printer wrote for this claim, set shorter by a program of this session (own.py), and what fell in Lean proved anew. Lean checks them. -/
import Derived.Test.YtcbkknpmeknppaaSFnExactPlanFoodx0
import Derived.Test.YtcbkknpmeknppaaSFnExactPlanFoodx1
import Derived.Test.YtcbkknpmeknppaaSFnExactPlanFoodx4
import Derived.Test.YtcbkknpmeknppaaSFnExactPlanFoodx5
import Derived.Test.YtcbkknpmeknppaaSFnExactPlanFoodx6
namespace Go.Proofs.Ytcbkknpmeknppaa.PFnExactPlanFood
open Go.RowKit Go.Proofs.YtcbkknpmeknppaaW.PrintWords Go.Proofs.YtcbkknpmeknppaaW.PrintLast Go.Proofs.YtcbkknpmeknppaaW.PrintMore
attribute [local go_sem] max2_int min2_int max_two min_two max_three min_three max_four min_four   -- for this text's walks alone
set_option linter.unusedVariables false
set_option linter.unusedSimpArgs false

/-! ### impl_IsPlan: function 46 -/
mutual
def impl_IsPlan.j0 : Nat → Int → List (S76) → Bool → Int → Int → List Int → Option (Bool)
 | 0,_,_,_,_,_,_ => none
 | k + 1,x1,x2,x17,x232000,x232001,x232002 => if x17 = true then (some false) else (impl_IsPlan.l0 k x1 x2 (x2.length : Int) 0 x232000 x232001 x232002)
def impl_IsPlan.l0 : Nat → Int → List (S76) → Int → Int → Int → Int → List Int → Option (Bool)
 | 0,_,_,_,_,_,_,_ => none
 | k + 1,x1,x18,x19,x20,x232000,x232001,x232002 => if x20 < x19 then (if 0 ≤ x20 then (if x20 < (x18.length : Int) then ((impl_Days.f k x232000 x232001 x232002 x1 ((rd_T76 x18 x20).f0)).bind fun t235 => (if t235 < 0 then (some false) else ((impl_InRange.f ((rd_T76 x18 x20).f1) 0 30).bind fun t236 => (if t236 = true then (impl_IsPlan.l0 k ((rd_T76 x18 x20).f0) x18 x19 (wrap64 (x20 + 1)) x232000 x232001 x232002) else (some false))))) else (none)) else (none)) else (some true)
end
def impl_IsPlan.f (k : Nat) (a0_0 : Int) (a0_1 : Int) (l0_2 : List Int) (a1 : Int) (l2 : List (S76)) : Option (Bool) := (impl_IsOpen.f k a0_0 a0_1 l0_2 a1).bind fun t232 => (if t232 = true then (impl_IsPlan.j0 k a1 l2 (decide ((l2.length : Int) > 10)) a0_0 a0_1 l0_2) else (impl_IsPlan.j0 k a1 l2 true a0_0 a0_1 l0_2))
set_option maxHeartbeats 8000000 in
set_option maxRecDepth 100000 in
theorem impl_IsPlan.calls (k : Nat) (a0_0 : Int) (a0_1 : Int) (A0_2 : Option Addr) (c0_2 : Nat) (l0_2 : List Int) (a1 : Int) (A2 : Option Addr) (c2 : Nat) (l2 : List (S76)) (r : Bool) (w : World) (hr0_2 : Kd.C (Kd.int .i64) w A0_2 l0_2.length l0_2) (hc0_2 : l0_2.length ≤ c0_2) (hr2 : Kd.C k76 w A2 l2.length l2) (hc2 : l2.length ≤ c2) (h : impl_IsPlan.f k a0_0 a0_1 l0_2 a1 l2 = some r) :
  Calls Try.prog 46 #[.agg #[.int .i64 a0_0,.int .i64 a0_1,.slice A0_2 l0_2.length c0_2],.int .i64 a1,.slice A2 l2.length c2] w fun e w' => e = .returned (.bool r) ∧ Below w.heap.size w w':=by
 have hu51:=Try.underlying51;have hu76:=Try.underlying76;have HR0_2:=am hr0_2;have HC0_2:=am hc0_2;clear hr0_2 hc0_2;have HR2:=am hr2;have HC2:=am hc2;clear hr2 hc2;have HB:=am qq465;have H : ((impl_IsOpen.f k a0_0 a0_1 l0_2 a1).bind fun t232 => (if t232 = true then (impl_IsPlan.j0 k a1 l2 (decide ((l2.length : Int) > 10)) a0_0 a0_1 l0_2) else (impl_IsPlan.j0 k a1 l2 true a0_0 a0_1 l0_2))) = some r:=h;clear h;have HC4:=am H;clear H
 go_enter Try.func46,Try.ntmps46
 go_upto_region 1 with (first | ((with_reducible refine gate_dst (N:=3) rfl ?_);(try (refine gate_guard (by rfl) ?_;dsimp only));refine box_event ?hg (N:=3) ?hd (cs:=#[.int .i64 a0_0,.int .i64 a0_1,.slice A0_2 l0_2.length c0_2]) (t:=51) ?hr ?_;(case hd => rfl);(case hg => rfl);(case hr => exact qq312);intro gb231 hg w5 hbox hb;have BK231:=am (hbox);have GW231:=am ((qq144 : w.heap.size ≤ gb231));have GE231:=am ((qq144 : w.heap.size ≤ gb231));replace HB:=am qq488;clear hb hbox hg))
 (try simp only [Act.put,sA,s0,s1])
 go_cut [17] (fun v17 wc => ∃ (kq : Nat) (x17_3 : Bool),v17 = .bool x17_3 ∧ Aside0 (impl_IsPlan.j0 kq a1 l2 x17_3 a0_0 a0_1 l0_2 = some r) ∧ Aside0 (kq ≤ k) ∧ Aside0 (wc.heap[gb231]? = some (.cells #[.int .i64 a0_0,.int .i64 a0_1,(.slice A0_2 l0_2.length c0_2)] 51 (0,0))) ∧ Aside0 (Below w.heap.size w wc))
 case first =>
  have H:=HC4.out;clear HC4;replace H:=bS.mp H;obtain ⟨t232,A60,H⟩:=H;(try dsimp only at H);have A6:=am A60;clear A60
  by_cases c7 : t232 = true
  ·subst c7;rw [if_pos rfl] at H;have H':=am H;clear H;obtain ⟨hcz8_0,hcz8_1,hcz8_2,hfz8_0,hfz8_1,hfz8_2⟩:=bcl3 BK231.out;go_wp2_with (first | ((with_reducible refine gate_callee (f:=49) rfl ?_);refine goesL_ (some 11) rfl rfl Try.func49 (by kernel_rfl) rfl #[.agg #[.int .i64 a0_0,.int .i64 a0_1,.slice A0_2 l0_2.length c0_2],.int .i64 a1] rfl qq187 ?_;(with_reducible refine (impl_IsOpen.calls k a0_0 a0_1 _ _ l0_2 a1 true _ ?side1 ?side2 A6.out).mono ?_);(case side1 => exact qq117);(case side2 => exact qq334);rintro e w9 ⟨rfl,hb⟩;refine ⟨_,rfl,?_⟩;replace BK231:=am qq372;replace HB:=am (below_step qq175 hb);(try clear hb);(try clear hb2);(try clear hk);(try clear hi)))
   go_meet
   case rel => exact ⟨_,(decide ((l2.length : Int) > 10)),qq311,H',⟨qq313⟩,⟨qq252⟩,⟨qq175⟩⟩
  ·replace c7:=Bool.eq_false_iff.mpr c7;subst c7;have H1 : (impl_IsPlan.j0 k a1 l2 true a0_0 a0_1 l0_2) = some r:=by rw [if_neg (show ¬ (false = true) by decide)] at H;exact H
   clear H;have H:=H1;clear H1;have H':=am H;clear H;obtain ⟨hcz10_0,hcz10_1,hcz10_2,hfz10_0,hfz10_1,hfz10_2⟩:=bcl3 BK231.out;go_wp2_with (first | ((with_reducible refine gate_callee (f:=49) rfl ?_);refine goesL_ (some 11) rfl rfl Try.func49 (by kernel_rfl) rfl #[.agg #[.int .i64 a0_0,.int .i64 a0_1,.slice A0_2 l0_2.length c0_2],.int .i64 a1] rfl qq187 ?_;(with_reducible refine (impl_IsOpen.calls k a0_0 a0_1 _ _ l0_2 a1 false _ ?side1 ?side2 A6.out).mono ?_);(case side1 => exact qq117);(case side2 => exact qq334);rintro e w11 ⟨rfl,hb⟩;refine ⟨_,rfl,?_⟩;replace BK231:=am qq372;replace HB:=am (below_step qq175 hb);(try clear hb);(try clear hb2);(try clear hk);(try clear hi)))
   go_meet
   case rel => exact ⟨_,(true),qq311,H',⟨qq313⟩,⟨qq252⟩,⟨qq175⟩⟩
 case rest =>
  clear HC4
  try clear c2
  try clear p2
  try clear c4
  try clear c7
  try clear hcz10_0
  try clear hcz10_1
  try clear hcz10_2
  try clear hcz8_0
  try clear hcz8_1
  try clear hcz8_2
  try clear hfz10_0
  try clear hfz10_1
  try clear hfz10_2
  try clear hfz8_0
  try clear hfz8_1
  try clear hfz8_2
  obtain ⟨kq,x17_3,rfl,HA,HJ3,BK231,HB⟩:=hcut
  cases kq with
  | zero => exact absurd HA.out (by simp [impl_IsPlan.j0])
  | succ kj3 =>
   have H:=HA.out;clear HA;simp only [impl_IsPlan.j0] at H
   by_cases c12 : x17_3 = true
   ·subst c12;rw [if_pos rfl] at H;obtain rfl:=Option.some.inj H;go_wp2
    go_ret
    exact ⟨qq263,qq175⟩
   ·replace c12:=Bool.eq_false_iff.mpr c12;subst c12;have H1 : (impl_IsPlan.l0 kj3 a1 l2 (l2.length : Int) 0 a0_0 a0_1 l0_2) = some r:=by rw [if_neg (show ¬ (false = true) by decide)] at H;exact H
    clear H;have H:=H1;clear H1;have H':=am H;clear H;go_wp2
    go_loopg [1,20] kj3 (fun kq v1 v20 w' => ∃ (x1_2 : Int) (x20_2 : Int),v1 = .int .i64 x1_2 ∧ v20 = .int .i64 x20_2 ∧ Aside0 (impl_IsPlan.l0 kq x1_2 l2 (l2.length : Int) x20_2 a0_0 a0_1 l0_2 = some r) ∧ Aside0 (kq ≤ kj3) ∧ Aside0 (w'.heap[gb231]? = some (.cells #[.int .i64 a0_0,.int .i64 a0_1,(.slice A0_2 l0_2.length c0_2)] 51 (0,0))) ∧ Aside0 (Below w.heap.size w w'))
    case atStart => exact ⟨(a1),(0),qq311,qq311,H',⟨Nat.le_refl _⟩,⟨qq252⟩,⟨qq175⟩⟩
    case round =>
     clear H'
     try clear c1
     try clear c2
     try clear p2
     try clear c4
     try clear c7
     try clear c12
     try clear hcz10_0
     try clear hcz10_1
     try clear hcz10_2
     try clear hcz8_0
     try clear hcz8_1
     try clear hcz8_2
     try clear hfz10_0
     try clear hfz10_1
     try clear hfz10_2
     try clear hfz8_0
     try clear hfz8_1
     try clear hfz8_2
     try clear p2
     obtain ⟨x1_2,x20_2,rfl,rfl,HA,HK2,BK231,HB⟩:=hrel
     cases gk with
     | zero => exact absurd HA.out (by simp [impl_IsPlan.l0])
     | succ k2 =>
      have H:=HA.out;clear HA;simp only [impl_IsPlan.l0] at H
      by_cases c13 : x20_2 < (l2.length : Int)
      ·rw [if_pos c13] at H;have c13b0 : decide (x20_2 < (l2.length : Int)) = true:=decide_eq_true c13;clear c13
       by_cases c14 : 0 ≤ x20_2
       ·rw [if_pos c14] at H;have c14b0 : decide (0 ≤ x20_2) = true:=decide_eq_true c14;clear c14
        by_cases c15 : x20_2 < (l2.length : Int)
        ·rw [if_pos c15] at H;have c15b0 : decide (x20_2 < (l2.length : Int)) = true:=decide_eq_true c15;clear c15;replace H:=bS.mp H;obtain ⟨t235,A160,H⟩:=H;(try dsimp only at H);have A16:=am A160;clear A160
         by_cases c17 : t235 < 0
         ·rw [if_pos c17] at H;have c17b0 : decide (t235 < 0) = true:=decide_eq_true c17;clear c17;obtain rfl:=Option.some.inj H;have p233 : 0 ≤ (x20_2 : Int):=odt qq309;have q233 : x20_2 < (l2.length : Int):=odt qq309;obtain ⟨ad233,e233,hx233_0,hx233_1⟩:=at_T76 HR2.out x20_2 p233 q233
          cases e233
          replace hx233_0:=(ct HB.out hx233_0 :)
          replace hx233_1:=(ct HB.out hx233_1 :)
          replace p233:=eq_true p233;replace q233:=eq_true q233;go_wp2_with (first | ((with_reducible refine gate_dst (N:=8) rfl ?_);(try (refine gate_guard (by rfl) ?_;dsimp only));refine box_event ?hg (N:=8) ?hd (cs:=#[.int .i64 0,.int .i64 0]) (t:=76) ?hr ?_;(case hd => rfl);(case hg => rfl);(case hr => exact qq312);intro gb234 hg w18 hbox hb;have BK234:=am (hbox);have GW234:=am qq456;have GE234:=am qq456;replace HB:=am (below_step qq175 hb);have NB231_234:=am ((qq36 : gb231 ≠ gb234));have NB234_231:=am ((qq42 : gb234 ≠ gb231));replace BK231:=am qq372;clear hb hbox hg;have hnb19:=NB234_231.out;have hnc19:=NB231_234.out;obtain ⟨hcz20_0,hcz20_1,hfz20_0,hfz20_1⟩:=bcl2 BK234.out;obtain ⟨hcz21_0,hcz21_1,hcz21_2,hfz21_0,hfz21_1,hfz21_2⟩:=bcl3 BK231.out) | ((with_reducible refine gate_callee (f:=35) rfl ?_);refine goesL_ (some 28) rfl rfl Try.func35 (by kernel_rfl) rfl #[.agg #[.int .i64 a0_0,.int .i64 a0_1,.slice A0_2 l0_2.length c0_2],.int .i64 x1_2,.int .i64 ((rd_T76 l2 x20_2).f0)] rfl qq187 ?_;(with_reducible refine (impl_Days.calls k2 a0_0 a0_1 _ _ l0_2 x1_2 ((rd_T76 l2 x20_2).f0) t235 _ ?side1 ?side2 A16.out).mono ?_);(case side1 => exact qq71);(case side2 => exact qq334);rintro e w22 ⟨rfl,hb⟩;refine ⟨_,rfl,?_⟩;replace BK231:=am qq389;replace BK234:=am qq360;replace HB:=am (below_step qq102 hb);(try clear hb);(try clear hb2);(try clear hk);(try clear hi)))
          go_ret
          exact ⟨qq263,qq102⟩
         ·rw [if_neg c17] at H;have c17b0 : decide (t235 < 0) = false:=decide_eq_false c17;clear c17;replace H:=bS.mp H;obtain ⟨t236,A230,H⟩:=H;(try dsimp only at H);have A23:=am A230;clear A230
          by_cases c24 : t236 = true
          ·subst c24;rw [if_pos rfl] at H;have H':=am H;clear H;have p233 : 0 ≤ (x20_2 : Int):=odt qq309;have q233 : x20_2 < (l2.length : Int):=odt qq309;obtain ⟨ad233,e233,hx233_0,hx233_1⟩:=at_T76 HR2.out x20_2 p233 q233
           cases e233
           replace hx233_0:=(ct HB.out hx233_0 :)
           replace hx233_1:=(ct HB.out hx233_1 :)
           replace p233:=eq_true p233;replace q233:=eq_true q233;go_wp2_with (first | ((with_reducible refine gate_dst (N:=8) rfl ?_);(try (refine gate_guard (by rfl) ?_;dsimp only));refine box_event ?hg (N:=8) ?hd (cs:=#[.int .i64 0,.int .i64 0]) (t:=76) ?hr ?_;(case hd => rfl);(case hg => rfl);(case hr => exact qq312);intro gb234 hg w25 hbox hb;have BK234:=am (hbox);have GW234:=am qq456;have GE234:=am qq456;replace HB:=am (below_step qq175 hb);have NB231_234:=am ((qq36 : gb231 ≠ gb234));have NB234_231:=am ((qq42 : gb234 ≠ gb231));replace BK231:=am qq372;clear hb hbox hg;have hnb26:=NB234_231.out;have hnc26:=NB231_234.out;obtain ⟨hcz27_0,hcz27_1,hfz27_0,hfz27_1⟩:=bcl2 BK234.out;obtain ⟨hcz28_0,hcz28_1,hcz28_2,hfz28_0,hfz28_1,hfz28_2⟩:=bcl3 BK231.out) | ((with_reducible refine gate_callee (f:=35) rfl ?_);refine goesL_ (some 28) rfl rfl Try.func35 (by kernel_rfl) rfl #[.agg #[.int .i64 a0_0,.int .i64 a0_1,.slice A0_2 l0_2.length c0_2],.int .i64 x1_2,.int .i64 ((rd_T76 l2 x20_2).f0)] rfl qq187 ?_;(with_reducible refine (impl_Days.calls k2 a0_0 a0_1 _ _ l0_2 x1_2 ((rd_T76 l2 x20_2).f0) t235 _ ?side1 ?side2 A16.out).mono ?_);(case side1 => exact qq71);(case side2 => exact qq334);rintro e w29 ⟨rfl,hb⟩;refine ⟨_,rfl,?_⟩;replace BK231:=am qq389;replace BK234:=am qq360;replace HB:=am (below_step qq102 hb);(try clear hb);(try clear hb2);(try clear hk);(try clear hi);obtain ⟨hcz30_0,hcz30_1,hfz30_0,hfz30_1⟩:=bcl2 BK234.out) | (go_at_call 76;(with_reducible refine (impl_InRange.calls ((rd_T76 l2 x20_2).f1) 0 30 true _ A23.out).mono ?_);rintro e w' ⟨rfl,⟨nd,rfl⟩⟩))
           go_roundg k2
           case measure => have:=HJ3.out;have:=HK2.out;omega
           case rel => exact ⟨((rd_T76 l2 x20_2).f0),(wrap64 (x20_2 + 1)),qq311,qq311,H',⟨qq315⟩,⟨qq252⟩,⟨qq102⟩⟩
          ·replace c24:=Bool.eq_false_iff.mpr c24;subst c24;have H1 : (some false) = some r:=by rw [if_neg (show ¬ (false = true) by decide)] at H;exact H
           clear H;have H:=H1;clear H1;obtain rfl:=Option.some.inj H;have p233 : 0 ≤ (x20_2 : Int):=odt qq309;have q233 : x20_2 < (l2.length : Int):=odt qq309;obtain ⟨ad233,e233,hx233_0,hx233_1⟩:=at_T76 HR2.out x20_2 p233 q233
           cases e233
           replace hx233_0:=(ct HB.out hx233_0 :)
           replace hx233_1:=(ct HB.out hx233_1 :)
           replace p233:=eq_true p233;replace q233:=eq_true q233;go_wp2_with (first | ((with_reducible refine gate_dst (N:=8) rfl ?_);(try (refine gate_guard (by rfl) ?_;dsimp only));refine box_event ?hg (N:=8) ?hd (cs:=#[.int .i64 0,.int .i64 0]) (t:=76) ?hr ?_;(case hd => rfl);(case hg => rfl);(case hr => exact qq312);intro gb234 hg w31 hbox hb;have BK234:=am (hbox);have GW234:=am qq456;have GE234:=am qq456;replace HB:=am (below_step qq175 hb);have NB231_234:=am ((qq36 : gb231 ≠ gb234));have NB234_231:=am ((qq42 : gb234 ≠ gb231));replace BK231:=am qq372;clear hb hbox hg;have hnb32:=NB234_231.out;have hnc32:=NB231_234.out;obtain ⟨hcz33_0,hcz33_1,hfz33_0,hfz33_1⟩:=bcl2 BK234.out;obtain ⟨hcz34_0,hcz34_1,hcz34_2,hfz34_0,hfz34_1,hfz34_2⟩:=bcl3 BK231.out) | ((with_reducible refine gate_callee (f:=35) rfl ?_);refine goesL_ (some 28) rfl rfl Try.func35 (by kernel_rfl) rfl #[.agg #[.int .i64 a0_0,.int .i64 a0_1,.slice A0_2 l0_2.length c0_2],.int .i64 x1_2,.int .i64 ((rd_T76 l2 x20_2).f0)] rfl qq187 ?_;(with_reducible refine (impl_Days.calls k2 a0_0 a0_1 _ _ l0_2 x1_2 ((rd_T76 l2 x20_2).f0) t235 _ ?side1 ?side2 A16.out).mono ?_);(case side1 => exact qq71);(case side2 => exact qq334);rintro e w35 ⟨rfl,hb⟩;refine ⟨_,rfl,?_⟩;replace BK231:=am qq389;replace BK234:=am qq360;replace HB:=am (below_step qq102 hb);(try clear hb);(try clear hb2);(try clear hk);(try clear hi);obtain ⟨hcz36_0,hcz36_1,hfz36_0,hfz36_1⟩:=bcl2 BK234.out) | (go_at_call 76;(with_reducible refine (impl_InRange.calls ((rd_T76 l2 x20_2).f1) 0 30 false _ A23.out).mono ?_);rintro e w' ⟨rfl,⟨nd,rfl⟩⟩))
           go_ret
           exact ⟨qq263,qq102⟩
        ·rw [if_neg c15] at H;exact absurd H (by simp)
       ·rw [if_neg c14] at H;exact absurd H (by simp)
      ·rw [if_neg c13] at H;have c13b0 : decide (x20_2 < (l2.length : Int)) = false:=decide_eq_false c13;clear c13;obtain rfl:=Option.some.inj H;go_wp2
       go_ret
       exact ⟨qq263,qq175⟩

/-! ### impl_WayTo: function 97 -/
mutual
def impl_WayTo.l0 : Nat → Int → List Int → List Int → Int → Int → Int → List Int → Option (List Int)
 | 0,_,_,_,_,_,_,_ => none
 | k + 1,x2,x7,x8,x9,x238000,x238001,x238002 => if x9 = x2 then (some x8) else ((impl_Near.f k x238000 x238001 x238002 x9).bind fun t248 => (impl_WayTo.l1 k x2 x7 x8 x9 t248 (t248.length : Int) 0 x238000 x238001 x238002))
def impl_WayTo.l1 : Nat → Int → List Int → List Int → Int → List Int → Int → Int → Int → Int → List Int → Option (List Int)
 | 0,_,_,_,_,_,_,_,_,_,_ => none
 | k + 1,x2,x7,x8,x9,x29,x30,x31,x238000,x238001,x238002 => if x31 < x30 then (if 0 ≤ x31 then (if x31 < (x29.length : Int) then (if 0 ≤ (rd x29 x31) then (if (rd x29 x31) < (x7.length : Int) then (if 0 ≤ x9 then (if x9 < (x7.length : Int) then (if (rd x7 (rd x29 x31)) < (rd x7 x9) then (if x8.length < 17592186044416 then (impl_WayTo.l0 k x2 x7 (x8 ++ [rd x29 x31]) (rd x29 x31) x238000 x238001 x238002) else (none)) else (impl_WayTo.l1 k x2 x7 x8 x9 x29 x30 (wrap64 (x31 + 1)) x238000 x238001 x238002)) else (none)) else (none)) else (none)) else (none)) else (none)) else (none)) else (if x8.length < 17592186044416 then (impl_WayTo.l0 k x2 x7 (x8 ++ [x9]) x9 x238000 x238001 x238002) else (none))
end
def impl_WayTo.f (k : Nat) (a0_0 : Int) (a0_1 : Int) (l0_2 : List Int) (a1 : Int) (a2 : Int) : Option (List Int) := (impl_Days.f k a0_0 a0_1 l0_2 a1 a2).bind fun t238 => (if t238 < 0 then (some ([] : List Int)) else ((impl_distances.f k a0_0 a0_1 l0_2 (([a2] : List Int))).bind fun t242 => (impl_WayTo.l0 k a2 t242 (([a1] : List Int)) a1 a0_0 a0_1 l0_2)))
set_option maxHeartbeats 8000000 in
set_option maxRecDepth 100000 in
theorem impl_WayTo.calls (k : Nat) (a0_0 : Int) (a0_1 : Int) (A0_2 : Option Addr) (c0_2 : Nat) (l0_2 : List Int) (a1 : Int) (a2 : Int) (r : List Int) (w : World) (hr0_2 : Kd.C (Kd.int .i64) w A0_2 l0_2.length l0_2) (hc0_2 : l0_2.length ≤ c0_2) (h : impl_WayTo.f k a0_0 a0_1 l0_2 a1 a2 = some r) :
  Calls Try.prog 97 #[.agg #[.int .i64 a0_0,.int .i64 a0_1,.slice A0_2 l0_2.length c0_2],.int .i64 a1,.int .i64 a2] w fun e w' => ∃ v0_ : Value,e = .returned (v0_) ∧ Kd.R (Kd.int .i64) 3 w' w.heap.size (fun _ => True) v0_ r ∧ Below w.heap.size w w':=by
 have hu51:=Try.underlying51;have HR0_2:=am hr0_2;have HC0_2:=am hc0_2;clear hr0_2 hc0_2;have HB:=am qq465;have H : ((impl_Days.f k a0_0 a0_1 l0_2 a1 a2).bind fun t238 => (if t238 < 0 then (some ([] : List Int)) else ((impl_distances.f k a0_0 a0_1 l0_2 (([a2] : List Int))).bind fun t242 => (impl_WayTo.l0 k a2 t242 (([a1] : List Int)) a1 a0_0 a0_1 l0_2)))) = some r:=h;clear h;replace H:=bS.mp H;obtain ⟨t238,A40,H⟩:=H;(try dsimp only at H);have A4:=am A40;clear A40
 by_cases c5 : t238 < 0
 ·rw [if_pos c5] at H;have c5b0 : decide (t238 < 0) = true:=decide_eq_true c5;clear c5;obtain rfl:=Option.some.inj H
  go_enter Try.func97,Try.ntmps97
  go_wp2_with (first | ((with_reducible refine gate_dst (N:=3) rfl ?_);refine box_event ?hg (N:=3) ?hd (cs:=#[.int .i64 a0_0,.int .i64 a0_1,.slice A0_2 l0_2.length c0_2]) (t:=51) ?hr ?_;(case hd => rfl);(case hg => rfl);(case hr => exact qq312);intro gb237 hg w6 hbox hb;have BK237:=am (hbox);have GW237:=am qq439;have GE237:=am qq439;replace HB:=am qq488;clear hb hbox hg;obtain ⟨hcz7_0,hcz7_1,hcz7_2,hfz7_0,hfz7_1,hfz7_2⟩:=bcl3 BK237.out) | (go_at_call 35;(with_reducible refine (impl_Days.calls k a0_0 a0_1 _ _ l0_2 a1 a2 t238 _ ?side1 ?side2 A4.out).mono ?_);(case side1 => exact qq117);(case side2 => exact qq334);rintro e w8 ⟨rfl,hb⟩;replace BK237:=am qq373;replace HB:=am qq494;(try clear hb);(try clear hb2);(try clear hk);(try clear hi)))
  repeat (go_quiet (first | ((with_reducible refine gate_dst (N:=3) rfl ?_);refine box_event ?hg (N:=3) ?hd (cs:=#[.int .i64 a0_0,.int .i64 a0_1,.slice A0_2 l0_2.length c0_2]) (t:=51) ?hr ?_;(case hd => rfl);(case hg => rfl);(case hr => exact qq312);intro gb237 hg w6 hbox hb;have BK237:=am (hbox);have GW237:=am qq439;have GE237:=am qq439;replace HB:=am qq488;clear hb hbox hg;obtain ⟨hcz7_0,hcz7_1,hcz7_2,hfz7_0,hfz7_1,hfz7_2⟩:=bcl3 BK237.out) | (go_at_call 35;(with_reducible refine (impl_Days.calls k a0_0 a0_1 _ _ l0_2 a1 a2 t238 _ ?side1 ?side2 A4.out).mono ?_);(case side1 => exact qq117);(case side2 => exact qq334);rintro e w8 ⟨rfl,hb⟩;replace BK237:=am qq373;replace HB:=am qq494;(try clear hb);(try clear hb2);(try clear hk);(try clear hi)));try go_wp2_with (first | ((with_reducible refine gate_dst (N:=3) rfl ?_);refine box_event ?hg (N:=3) ?hd (cs:=#[.int .i64 a0_0,.int .i64 a0_1,.slice A0_2 l0_2.length c0_2]) (t:=51) ?hr ?_;(case hd => rfl);(case hg => rfl);(case hr => exact qq312);intro gb237 hg w6 hbox hb;have BK237:=am (hbox);have GW237:=am qq439;have GE237:=am qq439;replace HB:=am qq488;clear hb hbox hg;obtain ⟨hcz7_0,hcz7_1,hcz7_2,hfz7_0,hfz7_1,hfz7_2⟩:=bcl3 BK237.out) | (go_at_call 35;(with_reducible refine (impl_Days.calls k a0_0 a0_1 _ _ l0_2 a1 a2 t238 _ ?side1 ?side2 A4.out).mono ?_);(case side1 => exact qq117);(case side2 => exact qq334);rintro e w8 ⟨rfl,hb⟩;replace BK237:=am qq373;replace HB:=am qq494;(try clear hb);(try clear hb2);(try clear hk);(try clear hi))))
  go_ret
  exact ⟨_,qq263,qq142,qq174⟩
 ·rw [if_neg c5] at H;have c5b0 : decide (t238 < 0) = false:=decide_eq_false c5;clear c5;obtain ⟨y239,hy239⟩ : ∃ y_ : List Int,y_ = (([a2] : List Int)):=⟨_,rfl⟩
  replace H : ((impl_distances.f k a0_0 a0_1 l0_2 y239).bind fun t242 => (impl_WayTo.l0 k a2 t242 (([a1] : List Int)) a1 a0_0 a0_1 l0_2)) = some r:=by first | (rw [hy239];with_reducible exact H) | (have H2_:=(Option.bind_some _ _).symm.trans H;rw [hy239];with_reducible exact H2_) | (have H2_:=(Option.bind_some _ _).symm.trans H;with_reducible exact H2_) | with_reducible exact H | (rw [hy239];exact H) | exact H
  have Ny239:=am hy239;clear hy239;replace H:=bS.mp H;obtain ⟨t242,A90,H⟩:=H;(try dsimp only at H);have A9:=am A90;clear A90;obtain ⟨y245,hy245⟩ : ∃ y_ : List Int,y_ = (([a1] : List Int)):=⟨_,rfl⟩
  replace H : (impl_WayTo.l0 k a2 t242 y245 a1 a0_0 a0_1 l0_2) = some r:=by first | (rw [hy245];with_reducible exact H) | (have H2_:=(Option.bind_some _ _).symm.trans H;rw [hy245];with_reducible exact H2_) | (have H2_:=(Option.bind_some _ _).symm.trans H;with_reducible exact H2_) | with_reducible exact H | (rw [hy245];exact H) | exact H
  have Ny245:=am hy245;clear hy245;have H':=am H;clear H
  go_enter Try.func97,Try.ntmps97
  go_wp2_with (first | ((with_reducible refine gate_dst (N:=3) rfl ?_);refine box_event ?hg (N:=3) ?hd (cs:=#[.int .i64 a0_0,.int .i64 a0_1,.slice A0_2 l0_2.length c0_2]) (t:=51) ?hr ?_;(case hd => rfl);(case hg => rfl);(case hr => exact qq312);intro gb237 hg w10 hbox hb;have BK237:=am (hbox);have GW237:=am qq439;have GE237:=am qq439;replace HB:=am qq488;clear hb hbox hg;obtain ⟨hcz11_0,hcz11_1,hcz11_2,hfz11_0,hfz11_1,hfz11_2⟩:=bcl3 BK237.out) | (go_at_call 35;(with_reducible refine (impl_Days.calls k a0_0 a0_1 _ _ l0_2 a1 a2 t238 _ ?side1 ?side2 A4.out).mono ?_);(case side1 => exact qq117);(case side2 => exact qq334);rintro e w12 ⟨rfl,hb⟩;replace BK237:=am qq373;replace HB:=am qq494;(try clear hb);(try clear hb2);(try clear hk);(try clear hi);obtain ⟨hcz13_0,hcz13_1,hcz13_2,hfz13_0,hfz13_1,hfz13_2⟩:=bcl3 BK237.out) | ((with_reducible refine gate_dst (N:=19) rfl ?_);refine Kd.R_lit (Kd.int .i64) _ 3 ?hg (N:=19) ?hd (xs:=([a2] : List Int)) (inner:=[.int .i64 a2]) (ok:=fun _ => True) (okp:=fun _ => True) ?hr ?hp (fun _ hk => hk) trivial (Below.refl _ _) (Nat.le_refl _) (by simp) ?_;(case hd => rfl);(case hg => rfl);(case hr => exact qq312);(case hp => exact qq265);intro v240 w14 ho15 hb hg_ hnew_;clear hg_ hnew_;(first | rw [← Ny239.out] at ho15 | (simp only [Int.reduceToNat] at ho15;rw [← Ny239.out] at ho15));have HO241:=am (Kd.R_lower ho15 (below_size qq174));replace BK237:=am qq373;replace HB:=am qq494;clear hb ho15;obtain ⟨Ao16,co16,eo16⟩:=Kd.R_slice HO241.out;subst eo16) | (go_at_call 90;(with_reducible refine (impl_distances.calls k a0_0 a0_1 _ _ l0_2 _ _ y239 t242 _ ?side1 ?side2 ?side3 ?side4 A9.out).mono ?_);(case side1 => exact qq117);(case side2 => exact qq334);(case side3 => exact qq130);(case side4 => exact qq326);rintro e w17 ⟨v243,rfl,ho0,hb⟩;have HO244:=am qq417;replace HO241:=am (Kd.R_elder' qq294 (Kd.R_base ho0) hb);replace BK237:=am qq373;replace HB:=am qq494;(try clear hb);(try clear hb2);(try clear hk);(try clear hi);(try clear ho0)) | ((with_reducible refine gate_dst (N:=22) rfl ?_);refine Kd.R_lit (Kd.int .i64) _ 3 ?hg (N:=22) ?hd (xs:=([a1] : List Int)) (inner:=[.int .i64 a1]) (ok:=fun _ => True) (okp:=fun _ => True) ?hr ?hp (fun _ hk => hk) trivial (Below.refl _ _) (Nat.le_refl _) (by simp) ?_;(case hd => rfl);(case hg => rfl);(case hr => exact qq312);(case hp => exact qq266);intro v246 w18 ho19 hb hg_ hnew_;clear hg_ hnew_;(first | rw [← Ny245.out] at ho19 | (simp only [Int.reduceToNat] at ho19;rw [← Ny245.out] at ho19));have HO247:=am qq397;replace HO241:=am (Kd.R_elder' qq294 (Kd.R_base ho19) hb);replace HO244:=am (Kd.R_elder' qq293 (Kd.R_base ho19) hb);replace BK237:=am qq373;replace HB:=am qq494;clear hb ho19))
  repeat (go_quiet (first | ((with_reducible refine gate_dst (N:=3) rfl ?_);refine box_event ?hg (N:=3) ?hd (cs:=#[.int .i64 a0_0,.int .i64 a0_1,.slice A0_2 l0_2.length c0_2]) (t:=51) ?hr ?_;(case hd => rfl);(case hg => rfl);(case hr => exact qq312);intro gb237 hg w10 hbox hb;have BK237:=am (hbox);have GW237:=am qq439;have GE237:=am qq439;replace HB:=am qq488;clear hb hbox hg;obtain ⟨hcz11_0,hcz11_1,hcz11_2,hfz11_0,hfz11_1,hfz11_2⟩:=bcl3 BK237.out) | (go_at_call 35;(with_reducible refine (impl_Days.calls k a0_0 a0_1 _ _ l0_2 a1 a2 t238 _ ?side1 ?side2 A4.out).mono ?_);(case side1 => exact qq117);(case side2 => exact qq334);rintro e w12 ⟨rfl,hb⟩;replace BK237:=am qq373;replace HB:=am qq494;(try clear hb);(try clear hb2);(try clear hk);(try clear hi);obtain ⟨hcz13_0,hcz13_1,hcz13_2,hfz13_0,hfz13_1,hfz13_2⟩:=bcl3 BK237.out) | ((with_reducible refine gate_dst (N:=19) rfl ?_);refine Kd.R_lit (Kd.int .i64) _ 3 ?hg (N:=19) ?hd (xs:=([a2] : List Int)) (inner:=[.int .i64 a2]) (ok:=fun _ => True) (okp:=fun _ => True) ?hr ?hp (fun _ hk => hk) trivial (Below.refl _ _) (Nat.le_refl _) (by simp) ?_;(case hd => rfl);(case hg => rfl);(case hr => exact qq312);(case hp => exact qq265);intro v240 w14 ho15 hb hg_ hnew_;clear hg_ hnew_;(first | rw [← Ny239.out] at ho15 | (simp only [Int.reduceToNat] at ho15;rw [← Ny239.out] at ho15));have HO241:=am (Kd.R_lower ho15 (below_size qq174));replace BK237:=am qq373;replace HB:=am qq494;clear hb ho15;obtain ⟨Ao16,co16,eo16⟩:=Kd.R_slice HO241.out;subst eo16) | (go_at_call 90;(with_reducible refine (impl_distances.calls k a0_0 a0_1 _ _ l0_2 _ _ y239 t242 _ ?side1 ?side2 ?side3 ?side4 A9.out).mono ?_);(case side1 => exact qq117);(case side2 => exact qq334);(case side3 => exact qq130);(case side4 => exact qq326);rintro e w17 ⟨v243,rfl,ho0,hb⟩;have HO244:=am qq417;replace HO241:=am (Kd.R_elder' qq294 (Kd.R_base ho0) hb);replace BK237:=am qq373;replace HB:=am qq494;(try clear hb);(try clear hb2);(try clear hk);(try clear hi);(try clear ho0)) | ((with_reducible refine gate_dst (N:=22) rfl ?_);refine Kd.R_lit (Kd.int .i64) _ 3 ?hg (N:=22) ?hd (xs:=([a1] : List Int)) (inner:=[.int .i64 a1]) (ok:=fun _ => True) (okp:=fun _ => True) ?hr ?hp (fun _ hk => hk) trivial (Below.refl _ _) (Nat.le_refl _) (by simp) ?_;(case hd => rfl);(case hg => rfl);(case hr => exact qq312);(case hp => exact qq266);intro v246 w18 ho19 hb hg_ hnew_;clear hg_ hnew_;(first | rw [← Ny245.out] at ho19 | (simp only [Int.reduceToNat] at ho19;rw [← Ny245.out] at ho19));have HO247:=am qq397;replace HO241:=am (Kd.R_elder' qq294 (Kd.R_base ho19) hb);replace HO244:=am (Kd.R_elder' qq293 (Kd.R_base ho19) hb);replace BK237:=am qq373;replace HB:=am qq494;clear hb ho19));try go_wp2_with (first | ((with_reducible refine gate_dst (N:=3) rfl ?_);refine box_event ?hg (N:=3) ?hd (cs:=#[.int .i64 a0_0,.int .i64 a0_1,.slice A0_2 l0_2.length c0_2]) (t:=51) ?hr ?_;(case hd => rfl);(case hg => rfl);(case hr => exact qq312);intro gb237 hg w10 hbox hb;have BK237:=am (hbox);have GW237:=am qq439;have GE237:=am qq439;replace HB:=am qq488;clear hb hbox hg;obtain ⟨hcz11_0,hcz11_1,hcz11_2,hfz11_0,hfz11_1,hfz11_2⟩:=bcl3 BK237.out) | (go_at_call 35;(with_reducible refine (impl_Days.calls k a0_0 a0_1 _ _ l0_2 a1 a2 t238 _ ?side1 ?side2 A4.out).mono ?_);(case side1 => exact qq117);(case side2 => exact qq334);rintro e w12 ⟨rfl,hb⟩;replace BK237:=am qq373;replace HB:=am qq494;(try clear hb);(try clear hb2);(try clear hk);(try clear hi);obtain ⟨hcz13_0,hcz13_1,hcz13_2,hfz13_0,hfz13_1,hfz13_2⟩:=bcl3 BK237.out) | ((with_reducible refine gate_dst (N:=19) rfl ?_);refine Kd.R_lit (Kd.int .i64) _ 3 ?hg (N:=19) ?hd (xs:=([a2] : List Int)) (inner:=[.int .i64 a2]) (ok:=fun _ => True) (okp:=fun _ => True) ?hr ?hp (fun _ hk => hk) trivial (Below.refl _ _) (Nat.le_refl _) (by simp) ?_;(case hd => rfl);(case hg => rfl);(case hr => exact qq312);(case hp => exact qq265);intro v240 w14 ho15 hb hg_ hnew_;clear hg_ hnew_;(first | rw [← Ny239.out] at ho15 | (simp only [Int.reduceToNat] at ho15;rw [← Ny239.out] at ho15));have HO241:=am (Kd.R_lower ho15 (below_size qq174));replace BK237:=am qq373;replace HB:=am qq494;clear hb ho15;obtain ⟨Ao16,co16,eo16⟩:=Kd.R_slice HO241.out;subst eo16) | (go_at_call 90;(with_reducible refine (impl_distances.calls k a0_0 a0_1 _ _ l0_2 _ _ y239 t242 _ ?side1 ?side2 ?side3 ?side4 A9.out).mono ?_);(case side1 => exact qq117);(case side2 => exact qq334);(case side3 => exact qq130);(case side4 => exact qq326);rintro e w17 ⟨v243,rfl,ho0,hb⟩;have HO244:=am qq417;replace HO241:=am (Kd.R_elder' qq294 (Kd.R_base ho0) hb);replace BK237:=am qq373;replace HB:=am qq494;(try clear hb);(try clear hb2);(try clear hk);(try clear hi);(try clear ho0)) | ((with_reducible refine gate_dst (N:=22) rfl ?_);refine Kd.R_lit (Kd.int .i64) _ 3 ?hg (N:=22) ?hd (xs:=([a1] : List Int)) (inner:=[.int .i64 a1]) (ok:=fun _ => True) (okp:=fun _ => True) ?hr ?hp (fun _ hk => hk) trivial (Below.refl _ _) (Nat.le_refl _) (by simp) ?_;(case hd => rfl);(case hg => rfl);(case hr => exact qq312);(case hp => exact qq266);intro v246 w18 ho19 hb hg_ hnew_;clear hg_ hnew_;(first | rw [← Ny245.out] at ho19 | (simp only [Int.reduceToNat] at ho19;rw [← Ny245.out] at ho19));have HO247:=am qq397;replace HO241:=am (Kd.R_elder' qq294 (Kd.R_base ho19) hb);replace HO244:=am (Kd.R_elder' qq293 (Kd.R_base ho19) hb);replace BK237:=am qq373;replace HB:=am qq494;clear hb ho19)))
  go_loopg [8,9] k (fun kq v8 v9 w' => ∃ (x8_1 : List Int) (x9_1 : Int),v9 = .int .i64 x9_1 ∧ Aside0 (impl_WayTo.l0 kq a2 t242 x8_1 x9_1 a0_0 a0_1 l0_2 = some r) ∧ Aside0 (kq ≤ k) ∧ Aside0 (Kd.R (Kd.int .i64) 3 w' w.heap.size (fun k_ => some k_ ≠ (v8 : Value).ownBlock) v243 t242) ∧ Aside0 (Kd.R (Kd.int .i64) 3 w' w.heap.size (fun k_ => some k_ ≠ (v243 : Value).ownBlock) v8 x8_1) ∧ Aside0 (w'.heap[gb237]? = some (.cells #[.int .i64 a0_0,.int .i64 a0_1,(.slice A0_2 l0_2.length c0_2)] 51 (0,0))) ∧ Aside0 (Below w.heap.size w w'))
  case atStart => exact ⟨(y245),(a1),qq311,H',⟨Nat.le_refl _⟩,⟨by (with_reducible repeat (first | apply kA | apply kN | apply kD));exact Kd.R_mono HO244.out (fun _ hk => hk.2)⟩,⟨by (with_reducible repeat (first | apply kA | apply kN | apply kD));exact Kd.R_mono HO247.out (fun _ hk => hk.2)⟩,⟨qq251⟩,⟨qq174⟩⟩
  case round =>
   clear H'
   try clear p2
   try clear c5
   try clear c5b0
   try clear c9
   try clear hcz11_0
   try clear hcz11_1
   try clear hcz11_2
   try clear hcz13_0
   try clear hcz13_1
   try clear hcz13_2
   try clear hcz7_0
   try clear hcz7_1
   try clear hcz7_2
   try clear hfz11_0
   try clear hfz11_1
   try clear hfz11_2
   try clear hfz13_0
   try clear hfz13_1
   try clear hfz13_2
   try clear hfz7_0
   try clear hfz7_1
   try clear hfz7_2
   obtain ⟨x8_1,x9_1,rfl,HA,HK1,HO_7,HO_8,BK237,HB⟩:=hrel
   cases gk with
   | zero => exact absurd HA.out (by simp [impl_WayTo.l0])
   | succ k1 =>
    have H:=HA.out;clear HA;simp only [impl_WayTo.l0] at H
    by_cases c20 : x9_1 = a2
    ·rw [if_pos c20] at H;have c20b0 : (x9_1 == a2) = true:=beq_iff_eq.mpr c20;have c20b1 : (x9_1 != a2) = false:=bne_eq_false_iff_eq.mpr c20;clear c20;obtain rfl:=Option.some.inj H;go_wp2
     repeat (go_quiet (fail);try go_wp2)
     go_ret
     exact ⟨_,qq263,by (with_reducible repeat (first | apply kA | apply kN | apply kD));exact Kd.R_mono HO_8.out (fun _ hk => trivial),qq174⟩
    ·rw [if_neg c20] at H;have c20b0 : (x9_1 == a2) = false:=beq_eq_false_iff_ne.mpr c20;have c20b1 : (x9_1 != a2) = true:=bne_iff_ne.mpr c20;replace H:=bS.mp H;obtain ⟨t248,A210,H⟩:=H;(try dsimp only at H);have A21:=am A210;clear A210;have H':=am H;clear H;obtain ⟨hcz22_0,hcz22_1,hcz22_2,hfz22_0,hfz22_1,hfz22_2⟩:=bcl3 BK237.out;go_wp2_with (first | (go_at_call 127;(with_reducible refine (impl_Near.calls k1 a0_0 a0_1 _ _ l0_2 x9_1 t248 _ ?side1 ?side2 A21.out).mono ?_);(case side1 => exact qq117);(case side2 => exact qq334);rintro e w23 ⟨v249,rfl,ho0,hb⟩;have HO250:=am qq398;replace HO_7:=am qq423;replace HO_8:=am qq424;replace BK237:=am qq373;replace HB:=am qq494;(try clear hb);(try clear hb2);(try clear hk);(try clear hi);(try clear ho0);obtain ⟨Ao24,co24,eo24⟩:=Kd.R_slice HO250.out;subst eo24))
     repeat (go_quiet (first | (go_at_call 127;(with_reducible refine (impl_Near.calls k1 a0_0 a0_1 _ _ l0_2 x9_1 t248 _ ?side1 ?side2 A21.out).mono ?_);(case side1 => exact qq117);(case side2 => exact qq334);rintro e w23 ⟨v249,rfl,ho0,hb⟩;have HO250:=am qq398;replace HO_7:=am qq423;replace HO_8:=am qq424;replace BK237:=am qq373;replace HB:=am qq494;(try clear hb);(try clear hb2);(try clear hk);(try clear hi);(try clear ho0);obtain ⟨Ao24,co24,eo24⟩:=Kd.R_slice HO250.out;subst eo24));try go_wp2_with (first | (go_at_call 127;(with_reducible refine (impl_Near.calls k1 a0_0 a0_1 _ _ l0_2 x9_1 t248 _ ?side1 ?side2 A21.out).mono ?_);(case side1 => exact qq117);(case side2 => exact qq334);rintro e w23 ⟨v249,rfl,ho0,hb⟩;have HO250:=am qq398;replace HO_7:=am qq423;replace HO_8:=am qq424;replace BK237:=am qq373;replace HB:=am qq494;(try clear hb);(try clear hb2);(try clear hk);(try clear hi);(try clear ho0);obtain ⟨Ao24,co24,eo24⟩:=Kd.R_slice HO250.out;subst eo24)))
     go_loopg [9,31] k1 (fun kq v9 v31 w' => ∃ (x9_2 : Int) (x31_2 : Int),v9 = .int .i64 x9_2 ∧ v31 = .int .i64 x31_2 ∧ Aside0 (impl_WayTo.l1 kq a2 t242 x8_1 x9_2 t248 (t248.length : Int) x31_2 a0_0 a0_1 l0_2 = some r) ∧ Aside0 (kq ≤ k1) ∧ Aside0 (Kd.R (Kd.int .i64) 3 w' w.heap.size (fun k_ => some k_ ≠ (u8 : Value).ownBlock ∧ some k_ ≠ ((.slice Ao24 t248.length co24) : Value).ownBlock) v243 t242) ∧ Aside0 (Kd.R (Kd.int .i64) 3 w' w.heap.size (fun k_ => some k_ ≠ (v243 : Value).ownBlock ∧ some k_ ≠ ((.slice Ao24 t248.length co24) : Value).ownBlock) u8 x8_1) ∧ Aside0 (Kd.R (Kd.int .i64) 3 w' w.heap.size (fun k_ => some k_ ≠ (v243 : Value).ownBlock ∧ some k_ ≠ (u8 : Value).ownBlock) (.slice Ao24 t248.length co24) t248) ∧ Aside0 (w'.heap[gb237]? = some (.cells #[.int .i64 a0_0,.int .i64 a0_1,(.slice A0_2 l0_2.length c0_2)] 51 (0,0))) ∧ Aside0 (Below w.heap.size w w'))
     case atStart => exact ⟨(x9_1),(0),qq311,qq311,H',⟨Nat.le_refl _⟩,⟨qq302⟩,⟨qq301⟩,⟨by (with_reducible repeat (first | apply kA | apply kN | apply kD));exact Kd.R_mono HO250.out (fun _ hk => ⟨hk.1.2,hk.2⟩)⟩,⟨qq251⟩,⟨qq174⟩⟩
     case round =>
      clear H'
      try clear c2
      try clear p2
      try clear c5
      try clear c5b0
      try clear c9
      try clear c20
      try clear c20b0
      try clear c20b1
      try clear hcz11_0
      try clear hcz11_1
      try clear hcz11_2
      try clear hcz13_0
      try clear hcz13_1
      try clear hcz13_2
      try clear hcz22_0
      try clear hcz22_1
      try clear hcz22_2
      try clear hcz7_0
      try clear hcz7_1
      try clear hcz7_2
      try clear hfz11_0
      try clear hfz11_1
      try clear hfz11_2
      try clear hfz13_0
      try clear hfz13_1
      try clear hfz13_2
      try clear hfz22_0
      try clear hfz22_1
      try clear hfz22_2
      try clear hfz7_0
      try clear hfz7_1
      try clear hfz7_2
      try clear p2
      obtain ⟨x9_2,x31_2,rfl,rfl,HA,HK2,HO_7,HO_8,HO_29,BK237,HB⟩:=hrel
      cases gk with
      | zero => exact absurd HA.out (by simp [impl_WayTo.l1])
      | succ k2 =>
       have H:=HA.out;clear HA;simp only [impl_WayTo.l1] at H
       by_cases c25 : x31_2 < (t248.length : Int)
       ·rw [if_pos c25] at H;have c25b0 : decide (x31_2 < (t248.length : Int)) = true:=decide_eq_true c25;clear c25
        by_cases c26 : 0 ≤ x31_2
        ·rw [if_pos c26] at H;have c26b0 : decide (0 ≤ x31_2) = true:=decide_eq_true c26;clear c26
         by_cases c27 : x31_2 < (t248.length : Int)
         ·rw [if_pos c27] at H;have c27b0 : decide (x31_2 < (t248.length : Int)) = true:=decide_eq_true c27;clear c27
          by_cases c28 : 0 ≤ (rd t248 x31_2)
          ·rw [if_pos c28] at H;have c28b0 : decide (0 ≤ (rd t248 x31_2)) = true:=decide_eq_true c28;clear c28
           by_cases c29 : (rd t248 x31_2) < (t242.length : Int)
           ·rw [if_pos c29] at H;have c29b0 : decide ((rd t248 x31_2) < (t242.length : Int)) = true:=decide_eq_true c29;clear c29
            by_cases c30 : 0 ≤ x9_2
            ·rw [if_pos c30] at H;have c30b0 : decide (0 ≤ x9_2) = true:=decide_eq_true c30;clear c30
             by_cases c31 : x9_2 < (t242.length : Int)
             ·rw [if_pos c31] at H;have c31b0 : decide (x9_2 < (t242.length : Int)) = true:=decide_eq_true c31;clear c31
              by_cases c32 : (rd t242 (rd t248 x31_2)) < (rd t242 x9_2)
              ·rw [if_pos c32] at H;have c32b0 : decide ((rd t242 (rd t248 x31_2)) < (rd t242 x9_2)) = true:=decide_eq_true c32;clear c32
               by_cases c33 : x8_1.length < 17592186044416
               ·rw [if_pos c33] at H;have LMc33:=am c33;clear c33;obtain ⟨y254,hy254⟩ : ∃ y_ : List Int,y_ = (x8_1 ++ [rd t248 x31_2]):=⟨_,rfl⟩
                replace H : (impl_WayTo.l0 k2 a2 t242 y254 (rd t248 x31_2) a0_0 a0_1 l0_2) = some r:=by first | (rw [hy254];with_reducible exact H) | (have H2_:=(Option.bind_some _ _).symm.trans H;rw [hy254];with_reducible exact H2_) | (have H2_:=(Option.bind_some _ _).symm.trans H;with_reducible exact H2_) | with_reducible exact H | (rw [hy254];exact H) | exact H
                have Ny254:=am hy254;clear hy254;have H':=am H;clear H;have p251 : 0 ≤ (x31_2 : Int):=odt qq309;have q251 : x31_2 < (t248.length : Int):=odt qq309;obtain ⟨ad251,e251,hx251_0⟩:=Kd.at_int (Kd.R_reads' HO_29.out).2.2 x31_2 p251 q251
                cases e251
                replace p251:=eq_true p251;replace q251:=eq_true q251;obtain ⟨Ao34,co34,eo34⟩:=Kd.R_slice HO_7.out;subst eo34;have p252 : 0 ≤ ((rd t248 x31_2) : Int):=odt qq309;have q252 : (rd t248 x31_2) < (t242.length : Int):=odt qq309;obtain ⟨ad252,e252,hx252_0⟩:=Kd.at_int (Kd.R_reads' HO_7.out).2.2 (rd t248 x31_2) p252 q252
                cases e252
                replace p252:=eq_true p252;replace q252:=eq_true q252;have p253 : 0 ≤ (x9_2 : Int):=odt qq309;have q253 : x9_2 < (t242.length : Int):=odt qq309;obtain ⟨ad253,e253,hx253_0⟩:=Kd.at_int (Kd.R_reads' HO_7.out).2.2 x9_2 p253 q253;obtain rfl : ad252 = ad253:=(by injection e253)
                replace p253:=eq_true p253;replace q253:=eq_true q253;go_wp2_with (first | ((with_reducible refine gate_builtin (b:=.append) (xs:=#[.tmp 46,.tmp 48]) rfl ?_);at_builtin;refine Kd.R_append (Kd.int .i64) (w0:=w) w.heap.size rfl (.tmp 46) (.tmp 48) 49 3 (.int .i64 0) 8 rfl Try.underlying49 info3 rfl (by decide) (by omega) u8 x8_1 (rd t248 x31_2) [.int .i64 (rd t248 x31_2)] (fun k_ => some k_ ≠ (.slice (some ad252) t242.length co34 : Value).ownBlock ∧ some k_ ≠ (.slice (some ad251) t248.length co24 : Value).ownBlock) (fun _ => False) rfl rfl ?aP (fun _ hk => hk.elim) ?aF ?aO ?aB ?aS ?aL ?_;(case aP => exact rfl);(case aB => exact qq139);(case aF => exact qq29);(case aO => exact qq267);(case aS => exact qq110);(case aL => have:=LMc33.out;omega);intro v255 w35 ho hb hg hat;rw [← Ny254.out] at ho;replace HO_7:=am qq393;replace HO_29:=am qq394;replace BK237:=am qq341;replace HB:=am (hb);have HO256:=am (ho);clear HO_8;clear ho hb hg hat))
                repeat (go_quiet (first | ((with_reducible refine gate_builtin (b:=.append) (xs:=#[.tmp 46,.tmp 48]) rfl ?_);at_builtin;refine Kd.R_append (Kd.int .i64) (w0:=w) w.heap.size rfl (.tmp 46) (.tmp 48) 49 3 (.int .i64 0) 8 rfl Try.underlying49 info3 rfl (by decide) (by omega) u8 x8_1 (rd t248 x31_2) [.int .i64 (rd t248 x31_2)] (fun k_ => some k_ ≠ (.slice (some ad252) t242.length co34 : Value).ownBlock ∧ some k_ ≠ (.slice (some ad251) t248.length co24 : Value).ownBlock) (fun _ => False) rfl rfl ?aP (fun _ hk => hk.elim) ?aF ?aO ?aB ?aS ?aL ?_;(case aP => exact rfl);(case aB => exact qq139);(case aF => exact qq29);(case aO => exact qq267);(case aS => exact qq110);(case aL => have:=LMc33.out;omega);intro v255 w35 ho hb hg hat;rw [← Ny254.out] at ho;replace HO_7:=am qq393;replace HO_29:=am qq394;replace BK237:=am qq341;replace HB:=am (hb);have HO256:=am (ho);clear HO_8;clear ho hb hg hat));try go_wp2_with (first | ((with_reducible refine gate_builtin (b:=.append) (xs:=#[.tmp 46,.tmp 48]) rfl ?_);at_builtin;refine Kd.R_append (Kd.int .i64) (w0:=w) w.heap.size rfl (.tmp 46) (.tmp 48) 49 3 (.int .i64 0) 8 rfl Try.underlying49 info3 rfl (by decide) (by omega) u8 x8_1 (rd t248 x31_2) [.int .i64 (rd t248 x31_2)] (fun k_ => some k_ ≠ (.slice (some ad252) t242.length co34 : Value).ownBlock ∧ some k_ ≠ (.slice (some ad251) t248.length co24 : Value).ownBlock) (fun _ => False) rfl rfl ?aP (fun _ hk => hk.elim) ?aF ?aO ?aB ?aS ?aL ?_;(case aP => exact rfl);(case aB => exact qq139);(case aF => exact qq29);(case aO => exact qq267);(case aS => exact qq110);(case aL => have:=LMc33.out;omega);intro v255 w35 ho hb hg hat;rw [← Ny254.out] at ho;replace HO_7:=am qq393;replace HO_29:=am qq394;replace BK237:=am qq341;replace HB:=am (hb);have HO256:=am (ho);clear HO_8;clear ho hb hg hat)))
                go_roundg k2
                case measure => have:=HK1.out;have:=HK2.out;omega
                case rel => exact ⟨(y254),(rd t248 x31_2),qq311,H',⟨qq314⟩,⟨qq205⟩,⟨by (with_reducible repeat (first | apply kA | apply kN | apply kD));exact Kd.R_mono HO256.out (fun _ hk => hk.1)⟩,⟨qq251⟩,⟨qq174⟩⟩
               ·rw [if_neg c33] at H;exact absurd H (by simp)
              ·rw [if_neg c32] at H;have c32b0 : decide ((rd t242 (rd t248 x31_2)) < (rd t242 x9_2)) = false:=decide_eq_false c32;clear c32;have H':=am H;clear H;have p251 : 0 ≤ (x31_2 : Int):=odt qq309;have q251 : x31_2 < (t248.length : Int):=odt qq309;obtain ⟨ad251,e251,hx251_0⟩:=Kd.at_int (Kd.R_reads' HO_29.out).2.2 x31_2 p251 q251
               cases e251
               replace p251:=eq_true p251;replace q251:=eq_true q251;obtain ⟨Ao36,co36,eo36⟩:=Kd.R_slice HO_7.out;subst eo36;have p252 : 0 ≤ ((rd t248 x31_2) : Int):=odt qq309;have q252 : (rd t248 x31_2) < (t242.length : Int):=odt qq309;obtain ⟨ad252,e252,hx252_0⟩:=Kd.at_int (Kd.R_reads' HO_7.out).2.2 (rd t248 x31_2) p252 q252
               cases e252
               replace p252:=eq_true p252;replace q252:=eq_true q252;have p253 : 0 ≤ (x9_2 : Int):=odt qq309;have q253 : x9_2 < (t242.length : Int):=odt qq309;obtain ⟨ad253,e253,hx253_0⟩:=Kd.at_int (Kd.R_reads' HO_7.out).2.2 x9_2 p253 q253;obtain rfl : ad252 = ad253:=(by injection e253)
               replace p253:=eq_true p253;replace q253:=eq_true q253;go_wp2
               repeat (go_quiet (fail);try go_wp2)
               go_roundg k2
               case measure => have:=HK1.out;have:=HK2.out;omega
               case rel => exact ⟨(x9_2),(wrap64 (x31_2 + 1)),qq311,qq311,H',⟨qq314⟩,⟨qq302⟩,⟨qq301⟩,⟨qq271⟩,⟨qq251⟩,⟨qq174⟩⟩
             ·rw [if_neg c31] at H;exact absurd H (by simp)
            ·rw [if_neg c30] at H;exact absurd H (by simp)
           ·rw [if_neg c29] at H;exact absurd H (by simp)
          ·rw [if_neg c28] at H;exact absurd H (by simp)
         ·rw [if_neg c27] at H;exact absurd H (by simp)
        ·rw [if_neg c26] at H;exact absurd H (by simp)
       ·rw [if_neg c25] at H;have c25b0 : decide (x31_2 < (t248.length : Int)) = false:=decide_eq_false c25;clear c25
        by_cases c37 : x8_1.length < 17592186044416
        ·rw [if_pos c37] at H;have LMc37:=am c37;clear c37;obtain ⟨y257,hy257⟩ : ∃ y_ : List Int,y_ = (x8_1 ++ [x9_2]):=⟨_,rfl⟩
         replace H : (impl_WayTo.l0 k2 a2 t242 y257 x9_2 a0_0 a0_1 l0_2) = some r:=by first | (rw [hy257];with_reducible exact H) | (have H2_:=(Option.bind_some _ _).symm.trans H;rw [hy257];with_reducible exact H2_) | (have H2_:=(Option.bind_some _ _).symm.trans H;with_reducible exact H2_) | with_reducible exact H | (rw [hy257];exact H) | exact H
         have Ny257:=am hy257;clear hy257;have H':=am H;clear H;go_wp2_with (first | ((with_reducible refine gate_builtin (b:=.append) (xs:=#[.tmp 46,.tmp 48]) rfl ?_);at_builtin;refine Kd.R_append (Kd.int .i64) (w0:=w) w.heap.size rfl (.tmp 46) (.tmp 48) 49 3 (.int .i64 0) 8 rfl Try.underlying49 info3 rfl (by decide) (by omega) u8 x8_1 x9_2 [.int .i64 x9_2] (fun k_ => some k_ ≠ (v243 : Value).ownBlock ∧ some k_ ≠ (.slice Ao24 t248.length co24 : Value).ownBlock) (fun _ => False) rfl rfl ?aP (fun _ hk => hk.elim) ?aF ?aO ?aB ?aS ?aL ?_;(case aP => exact rfl);(case aB => exact qq139);(case aF => exact qq29);(case aO => exact qq267);(case aS => exact qq110);(case aL => have:=LMc37.out;omega);intro v258 w38 ho hb hg hat;rw [← Ny257.out] at ho;replace HO_7:=am qq395;replace HO_29:=am qq415;replace BK237:=am qq341;replace HB:=am (hb);have HO259:=am (ho);clear HO_8;clear ho hb hg hat))
         repeat (go_quiet (first | ((with_reducible refine gate_builtin (b:=.append) (xs:=#[.tmp 46,.tmp 48]) rfl ?_);at_builtin;refine Kd.R_append (Kd.int .i64) (w0:=w) w.heap.size rfl (.tmp 46) (.tmp 48) 49 3 (.int .i64 0) 8 rfl Try.underlying49 info3 rfl (by decide) (by omega) u8 x8_1 x9_2 [.int .i64 x9_2] (fun k_ => some k_ ≠ (v243 : Value).ownBlock ∧ some k_ ≠ (.slice Ao24 t248.length co24 : Value).ownBlock) (fun _ => False) rfl rfl ?aP (fun _ hk => hk.elim) ?aF ?aO ?aB ?aS ?aL ?_;(case aP => exact rfl);(case aB => exact qq139);(case aF => exact qq29);(case aO => exact qq267);(case aS => exact qq110);(case aL => have:=LMc37.out;omega);intro v258 w38 ho hb hg hat;rw [← Ny257.out] at ho;replace HO_7:=am qq395;replace HO_29:=am qq415;replace BK237:=am qq341;replace HB:=am (hb);have HO259:=am (ho);clear HO_8;clear ho hb hg hat));try go_wp2_with (first | ((with_reducible refine gate_builtin (b:=.append) (xs:=#[.tmp 46,.tmp 48]) rfl ?_);at_builtin;refine Kd.R_append (Kd.int .i64) (w0:=w) w.heap.size rfl (.tmp 46) (.tmp 48) 49 3 (.int .i64 0) 8 rfl Try.underlying49 info3 rfl (by decide) (by omega) u8 x8_1 x9_2 [.int .i64 x9_2] (fun k_ => some k_ ≠ (v243 : Value).ownBlock ∧ some k_ ≠ (.slice Ao24 t248.length co24 : Value).ownBlock) (fun _ => False) rfl rfl ?aP (fun _ hk => hk.elim) ?aF ?aO ?aB ?aS ?aL ?_;(case aP => exact rfl);(case aB => exact qq139);(case aF => exact qq29);(case aO => exact qq267);(case aS => exact qq110);(case aL => have:=LMc37.out;omega);intro v258 w38 ho hb hg hat;rw [← Ny257.out] at ho;replace HO_7:=am qq395;replace HO_29:=am qq415;replace BK237:=am qq341;replace HB:=am (hb);have HO259:=am (ho);clear HO_8;clear ho hb hg hat)))
         go_roundg k2
         case measure => have:=HK1.out;have:=HK2.out;omega
         case rel => exact ⟨(y257),(x9_2),qq311,H',⟨qq314⟩,⟨qq205⟩,⟨by (with_reducible repeat (first | apply kA | apply kN | apply kD));exact Kd.R_mono HO259.out (fun _ hk => hk.1)⟩,⟨qq251⟩,⟨qq174⟩⟩
        ·rw [if_neg c37] at H;exact absurd H (by simp)

end Go.Proofs.Ytcbkknpmeknppaa.PFnExactPlanFood
