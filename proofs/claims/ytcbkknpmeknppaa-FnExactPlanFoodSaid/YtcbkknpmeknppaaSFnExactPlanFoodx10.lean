/- Contracts of functions that the law FnExactPlanFood reaches, for its row: lines that the kit's printer wrote for this claim, set shorter by a program of this session (own.py), and what fell in Lean proved anew. Lean checks them. -/
import Derived.Test.YtcbkknpmeknppaaSFnExactPlanFoodx0
namespace Go.Proofs.Ytcbkknpmeknppaa.PFnExactPlanFood
open Go.RowKit Go.Proofs.YtcbkknpmeknppaaW.PrintWords Go.Proofs.YtcbkknpmeknppaaW.PrintLast Go.Proofs.YtcbkknpmeknppaaW.PrintMore
attribute [local go_sem] max2_int min2_int max_two min_two max_three min_three max_four min_four   -- for this text's walks alone
set_option linter.unusedVariables false
set_option linter.unusedSimpArgs false

/-! ### spec_l1In: function 104 -/
def spec_l1In.f (a0 : Int) (a1 : Int) (a2 : Int) : Option (Bool) := if a0 ≥ a1 then (some (decide (a0 ≤ a2))) else (some false)
set_option maxHeartbeats 8000000 in
set_option maxRecDepth 100000 in
theorem spec_l1In.calls (a0 : Int) (a1 : Int) (a2 : Int) (r : Bool) (w : World) (h : spec_l1In.f a0 a1 a2 = some r) :
  Calls Try.prog 104 #[.int .i64 a0,.int .i64 a1,.int .i64 a2] w fun e w' => e = .returned (.bool r) ∧ Drawn0 w w':=by
 have H : (if a0 ≥ a1 then (some (decide (a0 ≤ a2))) else (some false)) = some r:=h;clear h
 by_cases c4 : a0 ≥ a1
 ·rw [if_pos c4] at H;have c4b0 : decide (a1 ≤ a0) = true:=decide_eq_true c4;clear c4;obtain rfl:=Option.some.inj H
  go_enter Try.func104,Try.ntmps104
  go_wp2
  go_ret
  exact ⟨qq311,qq307⟩
 ·rw [if_neg c4] at H;have c4b0 : decide (a1 ≤ a0) = false:=decide_eq_false c4;clear c4;obtain rfl:=Option.some.inj H
  go_enter Try.func104,Try.ntmps104
  go_wp2
  go_ret
  exact ⟨qq311,qq307⟩

/-! ### spec_IsLand: function 147 -/
mutual
def spec_IsLand.j0 : Nat → Bool → Int → Int → List Int → Option (Bool)
 | 0,_,_,_,_ => none
 | k + 1,x24,x328000,x328001,x328002 => if x24 = true then (some false) else (spec_IsLand.l0 k 0 x328000 x328001 x328002)
def spec_IsLand.l0 : Nat → Int → Int → Int → List Int → Option (Bool)
 | 0,_,_,_,_ => none
 | k + 1,x3,x328000,x328001,x328002 => if x3 < (x328002.length : Int) then (if 0 ≤ x3 then ((spec_l1In.f (rd x328002 x3) 0 2).bind fun t331 => (if t331 = true then (spec_IsLand.l0 k (wrap64 (x3 + 1)) x328000 x328001 x328002) else (some false))) else (none)) else (some true)
end
def spec_IsLand.f (k : Nat) (a0_0 : Int) (a0_1 : Int) (l0_2 : List Int) : Option (Bool) := (spec_l1In.f a0_0 1 8).bind fun t328 => (if t328 = true then ((spec_l1In.f a0_1 1 8).bind fun t329 => (if t329 = true then (spec_IsLand.j0 k ((l0_2.length : Int) != (wrap64 (a0_0 * a0_1))) a0_0 a0_1 l0_2) else (spec_IsLand.j0 k true a0_0 a0_1 l0_2))) else (spec_IsLand.j0 k true a0_0 a0_1 l0_2))
set_option maxHeartbeats 8000000 in
set_option maxRecDepth 100000 in
theorem spec_IsLand.calls (k : Nat) (a0_0 : Int) (a0_1 : Int) (A0_2 : Option Addr) (c0_2 : Nat) (l0_2 : List Int) (r : Bool) (w : World) (hr0_2 : Kd.C (Kd.int .i64) w A0_2 l0_2.length l0_2) (hc0_2 : l0_2.length ≤ c0_2) (h : spec_IsLand.f k a0_0 a0_1 l0_2 = some r) :
  Calls Try.prog 147 #[.agg #[.int .i64 a0_0,.int .i64 a0_1,.slice A0_2 l0_2.length c0_2]] w fun e w' => e = .returned (.bool r) ∧ Below w.heap.size w w':=by
 have hu51:=Try.underlying51;have HR0_2:=am hr0_2;have HC0_2:=am hc0_2;clear hr0_2 hc0_2;have HB:=am qq465;have H : ((spec_l1In.f a0_0 1 8).bind fun t328 => (if t328 = true then ((spec_l1In.f a0_1 1 8).bind fun t329 => (if t329 = true then (spec_IsLand.j0 k ((l0_2.length : Int) != (wrap64 (a0_0 * a0_1))) a0_0 a0_1 l0_2) else (spec_IsLand.j0 k true a0_0 a0_1 l0_2))) else (spec_IsLand.j0 k true a0_0 a0_1 l0_2))) = some r:=h;clear h;have HC2:=am H;clear H
 go_enter Try.func147,Try.ntmps147
 go_upto_region 1 with (first | ((with_reducible refine gate_dst (N:=1) rfl ?_);(try (refine gate_guard (by rfl) ?_;dsimp only));refine box_event ?hg (N:=1) ?hd (cs:=#[.int .i64 a0_0,.int .i64 a0_1,.slice A0_2 l0_2.length c0_2]) (t:=51) ?hr ?_;(case hd => rfl);(case hg => rfl);(case hr => exact qq312);intro gb327 hg w3 hbox hb;have BK327:=am (hbox);have GW327:=am ((qq144 : w.heap.size ≤ gb327));have GE327:=am ((qq144 : w.heap.size ≤ gb327));replace HB:=am qq488;clear hb hbox hg))
 (try simp only [Act.put,sA,s0,s1])
 go_cut [24] (fun v24 wc => ∃ (kq : Nat) (x24_1 : Bool),v24 = .bool x24_1 ∧ Aside0 (spec_IsLand.j0 kq x24_1 a0_0 a0_1 l0_2 = some r) ∧ Aside0 (kq ≤ k) ∧ Aside0 (wc.heap[gb327]? = some (.cells #[.int .i64 a0_0,.int .i64 a0_1,(.slice A0_2 l0_2.length c0_2)] 51 (0,0))) ∧ Aside0 (Below w.heap.size w wc))
 case first =>
  have H:=HC2.out;clear HC2;replace H:=bS.mp H;obtain ⟨t328,A40,H⟩:=H;(try dsimp only at H);have A4:=am A40;clear A40
  by_cases c5 : t328 = true
  ·subst c5;rw [if_pos rfl] at H;replace H:=bS.mp H;obtain ⟨t329,A60,H⟩:=H;(try dsimp only at H);have A6:=am A60;clear A60
   by_cases c7 : t329 = true
   ·subst c7;rw [if_pos rfl] at H;have H':=am H;clear H;obtain ⟨hcz8_0,hcz8_1,hcz8_2,hfz8_0,hfz8_1,hfz8_2⟩:=bcl3 BK327.out;go_wp2_with (first | ((with_reducible refine gate_callee (f:=104) rfl ?_);refine goesL_ (some 6) rfl rfl Try.func104 (by kernel_rfl) rfl #[.int .i64 a0_0,.int .i64 1,.int .i64 8] rfl qq187 ?_;(with_reducible refine (spec_l1In.calls a0_0 1 8 true _ A4.out).mono ?_);rintro e w' ⟨rfl,⟨nd,rfl⟩⟩;refine ⟨_,rfl,?_⟩) | (go_at_call 104;(with_reducible refine (spec_l1In.calls a0_1 1 8 true _ A6.out).mono ?_);rintro e w' ⟨rfl,⟨nd,rfl⟩⟩))
    go_meet
    case rel => exact ⟨_,(((l0_2.length : Int) != (wrap64 (a0_0 * a0_1)))),qq311,H',⟨qq313⟩,⟨qq239⟩,⟨qq164⟩⟩
   ·replace c7:=Bool.eq_false_iff.mpr c7;subst c7;have H1 : (spec_IsLand.j0 k true a0_0 a0_1 l0_2) = some r:=by rw [if_neg (show ¬ (false = true) by decide)] at H;exact H
    clear H;have H:=H1;clear H1;have H':=am H;clear H;obtain ⟨hcz9_0,hcz9_1,hcz9_2,hfz9_0,hfz9_1,hfz9_2⟩:=bcl3 BK327.out;go_wp2_with (first | ((with_reducible refine gate_callee (f:=104) rfl ?_);refine goesL_ (some 6) rfl rfl Try.func104 (by kernel_rfl) rfl #[.int .i64 a0_0,.int .i64 1,.int .i64 8] rfl qq187 ?_;(with_reducible refine (spec_l1In.calls a0_0 1 8 true _ A4.out).mono ?_);rintro e w' ⟨rfl,⟨nd,rfl⟩⟩;refine ⟨_,rfl,?_⟩) | (go_at_call 104;(with_reducible refine (spec_l1In.calls a0_1 1 8 false _ A6.out).mono ?_);rintro e w' ⟨rfl,⟨nd,rfl⟩⟩))
    go_meet
    case rel => exact ⟨_,(true),qq311,H',⟨qq313⟩,⟨qq239⟩,⟨qq164⟩⟩
  ·replace c5:=Bool.eq_false_iff.mpr c5;subst c5;have H1 : (spec_IsLand.j0 k true a0_0 a0_1 l0_2) = some r:=by rw [if_neg (show ¬ (false = true) by decide)] at H;exact H
   clear H;have H:=H1;clear H1;have H':=am H;clear H;obtain ⟨hcz10_0,hcz10_1,hcz10_2,hfz10_0,hfz10_1,hfz10_2⟩:=bcl3 BK327.out;go_wp2_with (first | ((with_reducible refine gate_callee (f:=104) rfl ?_);refine goesL_ (some 6) rfl rfl Try.func104 (by kernel_rfl) rfl #[.int .i64 a0_0,.int .i64 1,.int .i64 8] rfl qq187 ?_;(with_reducible refine (spec_l1In.calls a0_0 1 8 false _ A4.out).mono ?_);rintro e w' ⟨rfl,⟨nd,rfl⟩⟩;refine ⟨_,rfl,?_⟩))
   go_meet
   case rel => exact ⟨_,(true),qq311,H',⟨qq313⟩,⟨qq239⟩,⟨qq164⟩⟩
 case rest =>
  clear HC2
  try clear c1
  try clear p2
  try clear c5
  try clear p6
  try clear c7
  try clear c10
  try clear hcz10_0
  try clear hcz10_1
  try clear hcz10_2
  try clear hcz8_0
  try clear hcz8_1
  try clear hcz8_2
  try clear hcz9_0
  try clear hcz9_1
  try clear hcz9_2
  try clear hfz10_0
  try clear hfz10_1
  try clear hfz10_2
  try clear hfz8_0
  try clear hfz8_1
  try clear hfz8_2
  try clear hfz9_0
  try clear hfz9_1
  try clear hfz9_2
  obtain ⟨kq,x24_1,rfl,HA,HJ1,BK327,HB⟩:=hcut
  cases kq with
  | zero => exact absurd HA.out (by simp [spec_IsLand.j0])
  | succ kj1 =>
   have H:=HA.out;clear HA;simp only [spec_IsLand.j0] at H
   by_cases c11 : x24_1 = true
   ·subst c11;rw [if_pos rfl] at H;obtain rfl:=Option.some.inj H;go_wp2
    go_ret
    exact ⟨qq263,qq164⟩
   ·replace c11:=Bool.eq_false_iff.mpr c11;subst c11;have H1 : (spec_IsLand.l0 kj1 0 a0_0 a0_1 l0_2) = some r:=by rw [if_neg (show ¬ (false = true) by decide)] at H;exact H
    clear H;have H:=H1;clear H1;have H':=am H;clear H;go_wp2
    go_loopg [3] kj1 (fun kq v3 w' => ∃ (x3_2 : Int),v3 = .int .i64 x3_2 ∧ Aside0 (spec_IsLand.l0 kq x3_2 a0_0 a0_1 l0_2 = some r) ∧ Aside0 (kq ≤ kj1) ∧ Aside0 (w'.heap[gb327]? = some (.cells #[.int .i64 a0_0,.int .i64 a0_1,(.slice A0_2 l0_2.length c0_2)] 51 (0,0))) ∧ Aside0 (Below w.heap.size w w'))
    case atStart => exact ⟨(0),qq311,H',⟨Nat.le_refl _⟩,⟨qq239⟩,⟨qq164⟩⟩
    case round =>
     clear H'
     try clear c1
     try clear p2
     try clear c5
     try clear p6
     try clear c7
     try clear c10
     try clear c11
     try clear hcz10_0
     try clear hcz10_1
     try clear hcz10_2
     try clear hcz8_0
     try clear hcz8_1
     try clear hcz8_2
     try clear hcz9_0
     try clear hcz9_1
     try clear hcz9_2
     try clear hfz10_0
     try clear hfz10_1
     try clear hfz10_2
     try clear hfz8_0
     try clear hfz8_1
     try clear hfz8_2
     try clear hfz9_0
     try clear hfz9_1
     try clear hfz9_2
     try clear p2
     try clear p6
     obtain ⟨x3_2,rfl,HA,HK2,BK327,HB⟩:=hrel
     cases gk with
     | zero => exact absurd HA.out (by simp [spec_IsLand.l0])
     | succ k2 =>
      have H:=HA.out;clear HA;simp only [spec_IsLand.l0] at H
      by_cases c12 : x3_2 < (l0_2.length : Int)
      ·rw [if_pos c12] at H;have c12b0 : decide (x3_2 < (l0_2.length : Int)) = true:=decide_eq_true c12;clear c12
       by_cases c13 : 0 ≤ x3_2
       ·rw [if_pos c13] at H;have c13b0 : decide (0 ≤ x3_2) = true:=decide_eq_true c13;clear c13;replace H:=bS.mp H;obtain ⟨t331,A140,H⟩:=H;(try dsimp only at H);have A14:=am A140;clear A140
        by_cases c15 : t331 = true
        ·subst c15;rw [if_pos rfl] at H;have H':=am H;clear H;obtain ⟨hcz16_0,hcz16_1,hcz16_2,hfz16_0,hfz16_1,hfz16_2⟩:=bcl3 BK327.out;have p330 : 0 ≤ (x3_2 : Int):=odt qq309;have q330 : x3_2 < (l0_2.length : Int):=odt qq309;obtain ⟨ad330,e330,hx330_0⟩:=Kd.at_int HR0_2.out x3_2 p330 q330
         cases e330
         replace hx330_0:=(ct HB.out hx330_0 :)
         replace p330:=eq_true p330;replace q330:=eq_true q330;go_wp2_with (first | ((with_reducible refine gate_callee (f:=104) rfl ?_);refine goesL_ (some 37) rfl rfl Try.func104 (by kernel_rfl) rfl #[.int .i64 (rd l0_2 x3_2),.int .i64 0,.int .i64 2] rfl qq187 ?_;(with_reducible refine (spec_l1In.calls (rd l0_2 x3_2) 0 2 true _ A14.out).mono ?_);rintro e w' ⟨rfl,⟨nd,rfl⟩⟩;refine ⟨_,rfl,?_⟩))
         go_roundg k2
         case measure => have:=HJ1.out;have:=HK2.out;omega
         case rel => exact ⟨(wrap64 (x3_2 + 1)),qq311,H',⟨by have:=HJ1.out;have:=HK2.out;omega⟩,⟨qq239⟩,⟨qq164⟩⟩
        ·replace c15:=Bool.eq_false_iff.mpr c15;subst c15;have H1 : (some false) = some r:=by rw [if_neg (show ¬ (false = true) by decide)] at H;exact H
         clear H;have H:=H1;clear H1;obtain rfl:=Option.some.inj H;obtain ⟨hcz17_0,hcz17_1,hcz17_2,hfz17_0,hfz17_1,hfz17_2⟩:=bcl3 BK327.out;have p330 : 0 ≤ (x3_2 : Int):=odt qq309;have q330 : x3_2 < (l0_2.length : Int):=odt qq309;obtain ⟨ad330,e330,hx330_0⟩:=Kd.at_int HR0_2.out x3_2 p330 q330
         cases e330
         replace hx330_0:=(ct HB.out hx330_0 :)
         replace p330:=eq_true p330;replace q330:=eq_true q330;go_wp2_with (first | ((with_reducible refine gate_callee (f:=104) rfl ?_);refine goesL_ (some 37) rfl rfl Try.func104 (by kernel_rfl) rfl #[.int .i64 (rd l0_2 x3_2),.int .i64 0,.int .i64 2] rfl qq187 ?_;(with_reducible refine (spec_l1In.calls (rd l0_2 x3_2) 0 2 false _ A14.out).mono ?_);rintro e w' ⟨rfl,⟨nd,rfl⟩⟩;refine ⟨_,rfl,?_⟩))
         go_ret
         exact ⟨qq263,qq164⟩
       ·rw [if_neg c13] at H;exact absurd H (by simp)
      ·rw [if_neg c12] at H;have c12b0 : decide (x3_2 < (l0_2.length : Int)) = false:=decide_eq_false c12;clear c12;obtain rfl:=Option.some.inj H;obtain ⟨hcz18_0,hcz18_1,hcz18_2,hfz18_0,hfz18_1,hfz18_2⟩:=bcl3 BK327.out;go_wp2
       go_ret
       exact ⟨qq263,qq164⟩

/-! ### spec_IsCell: function 137 -/
def spec_IsCell.f (k : Nat) (a0_0 : Int) (a0_1 : Int) (l0_2 : List Int) (a1 : Int) : Option (Bool) := (spec_IsLand.f k a0_0 a0_1 l0_2).bind fun t333 => (if t333 = true then ((spec_l1In.f a1 0 (wrap64 ((l0_2.length : Int) - 1))).bind fun t334 => (some t334)) else (some false))
set_option maxHeartbeats 8000000 in
set_option maxRecDepth 100000 in
theorem spec_IsCell.calls (k : Nat) (a0_0 : Int) (a0_1 : Int) (A0_2 : Option Addr) (c0_2 : Nat) (l0_2 : List Int) (a1 : Int) (r : Bool) (w : World) (hr0_2 : Kd.C (Kd.int .i64) w A0_2 l0_2.length l0_2) (hc0_2 : l0_2.length ≤ c0_2) (h : spec_IsCell.f k a0_0 a0_1 l0_2 a1 = some r) :
  Calls Try.prog 137 #[.agg #[.int .i64 a0_0,.int .i64 a0_1,.slice A0_2 l0_2.length c0_2],.int .i64 a1] w fun e w' => e = .returned (.bool r) ∧ Below w.heap.size w w':=by
 have hu51:=Try.underlying51;have HR0_2:=am hr0_2;have HC0_2:=am hc0_2;clear hr0_2 hc0_2;have HB:=am qq465;have H : ((spec_IsLand.f k a0_0 a0_1 l0_2).bind fun t333 => (if t333 = true then ((spec_l1In.f a1 0 (wrap64 ((l0_2.length : Int) - 1))).bind fun t334 => (some t334)) else (some false))) = some r:=h;clear h;replace H:=bS.mp H;obtain ⟨t333,A30,H⟩:=H;(try dsimp only at H);have A3:=am A30;clear A30
 by_cases c4 : t333 = true
 ·subst c4;rw [if_pos rfl] at H;replace H:=bS.mp H;obtain ⟨t334,A50,H⟩:=H;(try dsimp only at H);have A5:=am A50;clear A50;obtain rfl:=Option.some.inj H
  go_enter Try.func137,Try.ntmps137
  go_wp2_with (first | ((with_reducible refine gate_dst (N:=2) rfl ?_);(try (refine gate_guard (by rfl) ?_;dsimp only));refine box_event ?hg (N:=2) ?hd (cs:=#[.int .i64 a0_0,.int .i64 a0_1,.slice A0_2 l0_2.length c0_2]) (t:=51) ?hr ?_;(case hd => rfl);(case hg => rfl);(case hr => exact qq312);intro gb332 hg w6 hbox hb;have BK332:=am (hbox);have GW332:=am qq445;have GE332:=am qq445;replace HB:=am qq488;clear hb hbox hg;obtain ⟨hcz7_0,hcz7_1,hcz7_2,hfz7_0,hfz7_1,hfz7_2⟩:=bcl3 BK332.out) | ((with_reducible refine gate_callee (f:=147) rfl ?_);refine goesL_ (some 6) rfl rfl Try.func147 (by kernel_rfl) rfl #[.agg #[.int .i64 a0_0,.int .i64 a0_1,.slice A0_2 l0_2.length c0_2]] rfl qq187 ?_;(with_reducible refine (spec_IsLand.calls k a0_0 a0_1 _ _ l0_2 true _ ?side1 ?side2 A3.out).mono ?_);(case side1 => exact qq117);(case side2 => exact qq334);rintro e w8 ⟨rfl,hb⟩;refine ⟨_,rfl,?_⟩;replace BK332:=am qq378;replace HB:=am (below_step qq163 hb);(try clear hb);(try clear hb2);(try clear hk);(try clear hi);obtain ⟨hcz9_0,hcz9_1,hcz9_2,hfz9_0,hfz9_1,hfz9_2⟩:=bcl3 BK332.out) | (go_at_call 104;(with_reducible refine (spec_l1In.calls a1 0 (wrap64 ((l0_2.length : Int) - 1)) t334 _ A5.out).mono ?_);rintro e w' ⟨rfl,⟨nd,rfl⟩⟩))
  go_ret
  exact ⟨qq263,qq163⟩
 ·replace c4:=Bool.eq_false_iff.mpr c4;subst c4;have H1 : (some false) = some r:=by rw [if_neg (show ¬ (false = true) by decide)] at H;exact H
  clear H;have H:=H1;clear H1;obtain rfl:=Option.some.inj H
  go_enter Try.func137,Try.ntmps137
  go_wp2_with (first | ((with_reducible refine gate_dst (N:=2) rfl ?_);(try (refine gate_guard (by rfl) ?_;dsimp only));refine box_event ?hg (N:=2) ?hd (cs:=#[.int .i64 a0_0,.int .i64 a0_1,.slice A0_2 l0_2.length c0_2]) (t:=51) ?hr ?_;(case hd => rfl);(case hg => rfl);(case hr => exact qq312);intro gb332 hg w10 hbox hb;have BK332:=am (hbox);have GW332:=am qq445;have GE332:=am qq445;replace HB:=am qq488;clear hb hbox hg;obtain ⟨hcz11_0,hcz11_1,hcz11_2,hfz11_0,hfz11_1,hfz11_2⟩:=bcl3 BK332.out) | ((with_reducible refine gate_callee (f:=147) rfl ?_);refine goesL_ (some 6) rfl rfl Try.func147 (by kernel_rfl) rfl #[.agg #[.int .i64 a0_0,.int .i64 a0_1,.slice A0_2 l0_2.length c0_2]] rfl qq187 ?_;(with_reducible refine (spec_IsLand.calls k a0_0 a0_1 _ _ l0_2 false _ ?side1 ?side2 A3.out).mono ?_);(case side1 => exact qq117);(case side2 => exact qq334);rintro e w12 ⟨rfl,hb⟩;refine ⟨_,rfl,?_⟩;replace BK332:=am qq378;replace HB:=am (below_step qq163 hb);(try clear hb);(try clear hb2);(try clear hk);(try clear hi)))
  go_ret
  exact ⟨qq263,qq163⟩

/-! ### spec_IsOpen: function 105 -/
def spec_IsOpen.f (k : Nat) (a0_0 : Int) (a0_1 : Int) (l0_2 : List Int) (a1 : Int) : Option (Bool) := (spec_IsCell.f k a0_0 a0_1 l0_2 a1).bind fun t336 => (if t336 = true then (if 0 ≤ a1 then (if a1 < (l0_2.length : Int) then (some ((rd l0_2 a1) != 2)) else (none)) else (none)) else (some false))
set_option maxHeartbeats 8000000 in
set_option maxRecDepth 100000 in
theorem spec_IsOpen.calls (k : Nat) (a0_0 : Int) (a0_1 : Int) (A0_2 : Option Addr) (c0_2 : Nat) (l0_2 : List Int) (a1 : Int) (r : Bool) (w : World) (hr0_2 : Kd.C (Kd.int .i64) w A0_2 l0_2.length l0_2) (hc0_2 : l0_2.length ≤ c0_2) (h : spec_IsOpen.f k a0_0 a0_1 l0_2 a1 = some r) :
  Calls Try.prog 105 #[.agg #[.int .i64 a0_0,.int .i64 a0_1,.slice A0_2 l0_2.length c0_2],.int .i64 a1] w fun e w' => e = .returned (.bool r) ∧ Below w.heap.size w w':=by
 have hu51:=Try.underlying51;have HR0_2:=am hr0_2;have HC0_2:=am hc0_2;clear hr0_2 hc0_2;have HB:=am qq465;have H : ((spec_IsCell.f k a0_0 a0_1 l0_2 a1).bind fun t336 => (if t336 = true then (if 0 ≤ a1 then (if a1 < (l0_2.length : Int) then (some ((rd l0_2 a1) != 2)) else (none)) else (none)) else (some false))) = some r:=h;clear h;replace H:=bS.mp H;obtain ⟨t336,A30,H⟩:=H;(try dsimp only at H);have A3:=am A30;clear A30
 by_cases c4 : t336 = true
 ·subst c4;rw [if_pos rfl] at H
  by_cases c5 : 0 ≤ a1
  ·rw [if_pos c5] at H;have c5b0 : decide (0 ≤ a1) = true:=decide_eq_true c5;clear c5
   by_cases c6 : a1 < (l0_2.length : Int)
   ·rw [if_pos c6] at H;have c6b0 : decide (a1 < (l0_2.length : Int)) = true:=decide_eq_true c6;clear c6;obtain rfl:=Option.some.inj H
    go_enter Try.func105,Try.ntmps105
    go_wp2_with (first | ((with_reducible refine gate_dst (N:=2) rfl ?_);refine box_event ?hg (N:=2) ?hd (cs:=#[.int .i64 a0_0,.int .i64 a0_1,.slice A0_2 l0_2.length c0_2]) (t:=51) ?hr ?_;(case hd => rfl);(case hg => rfl);(case hr => exact qq312);intro gb335 hg w7 hbox hb;have BK335:=am (hbox);have GW335:=am qq446;have GE335:=am qq446;replace HB:=am qq488;clear hb hbox hg;obtain ⟨hcz8_0,hcz8_1,hcz8_2,hfz8_0,hfz8_1,hfz8_2⟩:=bcl3 BK335.out) | ((with_reducible refine gate_callee (f:=137) rfl ?_);refine goesL_ (some 7) rfl rfl Try.func137 (by kernel_rfl) rfl #[.agg #[.int .i64 a0_0,.int .i64 a0_1,.slice A0_2 l0_2.length c0_2],.int .i64 a1] rfl qq187 ?_;(with_reducible refine (spec_IsCell.calls k a0_0 a0_1 _ _ l0_2 a1 true _ ?side1 ?side2 A3.out).mono ?_);(case side1 => exact qq117);(case side2 => exact qq334);rintro e w9 ⟨rfl,hb⟩;refine ⟨_,rfl,?_⟩;replace BK335:=am qq379;replace HB:=am (below_step qq162 hb);(try clear hb);(try clear hb2);(try clear hk);(try clear hi);obtain ⟨hcz10_0,hcz10_1,hcz10_2,hfz10_0,hfz10_1,hfz10_2⟩:=bcl3 BK335.out;have p337 : 0 ≤ (a1 : Int):=odt qq309;have q337 : a1 < (l0_2.length : Int):=odt qq309;obtain ⟨ad337,e337,hx337_0⟩:=Kd.at_int HR0_2.out a1 p337 q337;cases e337;replace hx337_0:=(ct HB.out hx337_0 :);replace p337:=eq_true p337;replace q337:=eq_true q337))
    go_ret
    exact ⟨qq263,qq162⟩
   ·rw [if_neg c6] at H;exact absurd H (by simp)
  ·rw [if_neg c5] at H;exact absurd H (by simp)
 ·replace c4:=Bool.eq_false_iff.mpr c4;subst c4;have H1 : (some false) = some r:=by rw [if_neg (show ¬ (false = true) by decide)] at H;exact H
  clear H;have H:=H1;clear H1;obtain rfl:=Option.some.inj H
  go_enter Try.func105,Try.ntmps105
  go_wp2_with (first | ((with_reducible refine gate_dst (N:=2) rfl ?_);refine box_event ?hg (N:=2) ?hd (cs:=#[.int .i64 a0_0,.int .i64 a0_1,.slice A0_2 l0_2.length c0_2]) (t:=51) ?hr ?_;(case hd => rfl);(case hg => rfl);(case hr => exact qq312);intro gb335 hg w11 hbox hb;have BK335:=am (hbox);have GW335:=am qq446;have GE335:=am qq446;replace HB:=am qq488;clear hb hbox hg;obtain ⟨hcz12_0,hcz12_1,hcz12_2,hfz12_0,hfz12_1,hfz12_2⟩:=bcl3 BK335.out) | ((with_reducible refine gate_callee (f:=137) rfl ?_);refine goesL_ (some 7) rfl rfl Try.func137 (by kernel_rfl) rfl #[.agg #[.int .i64 a0_0,.int .i64 a0_1,.slice A0_2 l0_2.length c0_2],.int .i64 a1] rfl qq187 ?_;(with_reducible refine (spec_IsCell.calls k a0_0 a0_1 _ _ l0_2 a1 false _ ?side1 ?side2 A3.out).mono ?_);(case side1 => exact qq117);(case side2 => exact qq334);rintro e w13 ⟨rfl,hb⟩;refine ⟨_,rfl,?_⟩;replace BK335:=am qq379;replace HB:=am (below_step qq162 hb);(try clear hb);(try clear hb2);(try clear hk);(try clear hi)))
  go_ret
  exact ⟨qq263,qq162⟩

end Go.Proofs.Ytcbkknpmeknppaa.PFnExactPlanFood
