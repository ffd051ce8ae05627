/- Contracts of functions that the law FnExactPlanFood reaches, for its row: lines that the kit's printer wrote for this claim, set shorter by a program of this session (own.py), and what fell in Lean proved anew. Lean checks them. -/
import Derived.Test.YtcbkknpmeknppaaSFnExactPlanFoodx0
import Derived.Test.YtcbkknpmeknppaaSFnExactPlanFoodx1
import Derived.Test.YtcbkknpmeknppaaSFnExactPlanFoodx3
namespace Go.Proofs.Ytcbkknpmeknppaa.PFnExactPlanFood
open Go.RowKit Go.Proofs.YtcbkknpmeknppaaW.PrintWords Go.Proofs.YtcbkknpmeknppaaW.PrintLast Go.Proofs.YtcbkknpmeknppaaW.PrintMore
attribute [local go_sem] max2_int min2_int max_two min_two max_three min_three max_four min_four   -- for this text's walks alone
set_option linter.unusedVariables false
set_option linter.unusedSimpArgs false

/-! ### impl_WorstDays: function 23 -/
mutual
def impl_WorstDays.j0 : Nat → List Bool → Int → Bool → Int → Int → Option (Int)
 | 0,_,_,_,_,_ => none
 | k + 1,x1,x2,x21,x147000,x147001 => if x21 = true then (some (-1)) else (impl_WorstDays.l0 k x1 x2 0 x147000 x147001)
def impl_WorstDays.l0 : Nat → List Bool → Int → Int → Int → Int → Option (Int)
 | 0,_,_,_,_,_ => none
 | k + 1,x1,x2,x7,x147000,x147001 => if x2 > 0 then ((impl_MayStorm.f k x147000 x147001 x1).bind fun t149 => (if t149 = true then ((impl_AddDay.f x1 t149).bind fun t150 => (impl_WorstDays.l0 k t150 x2 (wrap64 (x7 + 1)) x147000 x147001)) else ((impl_AddDay.f x1 t149).bind fun t153 => (impl_WorstDays.l0 k t153 (wrap64 (x2 - 1)) (wrap64 (x7 + 1)) x147000 x147001)))) else (some x7)
end
def impl_WorstDays.f (k : Nat) (a0_0 : Int) (a0_1 : Int) (l1 : List Bool) (a2 : Int) : Option (Int) := (impl_IsRule.f a0_0 a0_1).bind fun t147 => (if t147 = true then ((impl_InRange.f a2 0 200).bind fun t148 => (if t148 = true then (impl_WorstDays.j0 k l1 a2 (decide ((l1.length : Int) > 400)) a0_0 a0_1) else (impl_WorstDays.j0 k l1 a2 true a0_0 a0_1))) else (impl_WorstDays.j0 k l1 a2 true a0_0 a0_1))
set_option maxHeartbeats 8000000 in
set_option maxRecDepth 100000 in
theorem impl_WorstDays.calls (k : Nat) (a0_0 : Int) (a0_1 : Int) (P1_ : Nat → Prop) (A1 : Option Addr) (c1 : Nat) (l1 : List Bool) (a2 : Int) (r : Int) (w : World) (hs1 : Kd.V Kd.bool 4 w w.heap.size (fun k_ => P1_ k_) (.slice A1 l1.length c1) l1) (h : impl_WorstDays.f k a0_0 a0_1 l1 a2 = some r) :
  Calls Try.prog 23 #[.agg #[.int .i64 a0_0,.int .i64 a0_1],.slice A1 l1.length c1,.int .i64 a2] w fun e w' => e = .returned (.int .i64 r) ∧ Below w.heap.size w w':=by
 have hu37:=Try.underlying37;have HO1:=am (show Kd.V Kd.bool 4 w w.heap.size (fun k_ => (P1_ k_ ∨ w.heap.size ≤ k_)) (.slice A1 l1.length c1) l1 from Kd.V_mono hs1 (fun k_ hk => .inl hk));have HB:=am qq465;have H : ((impl_IsRule.f a0_0 a0_1).bind fun t147 => (if t147 = true then ((impl_InRange.f a2 0 200).bind fun t148 => (if t148 = true then (impl_WorstDays.j0 k l1 a2 (decide ((l1.length : Int) > 400)) a0_0 a0_1) else (impl_WorstDays.j0 k l1 a2 true a0_0 a0_1))) else (impl_WorstDays.j0 k l1 a2 true a0_0 a0_1))) = some r:=h;clear h;have HC4:=am H;clear H
 go_enter Try.func23,Try.ntmps23
 go_upto_region 1 with (first | ((with_reducible refine gate_dst (N:=3) rfl ?_);(try (refine gate_guard (by rfl) ?_;dsimp only));refine box_event ?hg (N:=3) ?hd (cs:=#[.int .i64 a0_0,.int .i64 a0_1]) (t:=37) ?hr ?_;(case hd => rfl);(case hg => rfl);(case hr => exact qq312);intro gb146 hg w5 hbox hb;replace HO1:=am (Kd.V_below (Kd.V_elderB qq211 gb146 (Nat.le_of_eq hg.symm)) hb);have BK146:=am (hbox);have GW146:=am ((qq144 : w.heap.size ≤ gb146));have GE146:=am ((qq144 : w.heap.size ≤ gb146));replace HB:=am qq488;clear hb hbox hg))
 (try simp only [Act.put,sA,s0,s1])
 go_cut [21] (fun v21 wc => ∃ (kq : Nat) (x21_3 : Bool),v21 = .bool x21_3 ∧ Aside0 (impl_WorstDays.j0 kq l1 a2 x21_3 a0_0 a0_1 = some r) ∧ Aside0 (kq ≤ k) ∧ Aside0 (Kd.V Kd.bool 4 wc w.heap.size (fun k_ => (P1_ k_ ∨ w.heap.size ≤ k_) ∧ k_ ≠ gb146) (.slice A1 l1.length c1) l1) ∧ Aside0 (wc.heap[gb146]? = some (.cells #[.int .i64 a0_0,.int .i64 a0_1] 37 (0,0))) ∧ Aside0 (Below w.heap.size w wc))
 case first =>
  have H:=HC4.out;clear HC4;replace H:=bS.mp H;obtain ⟨t147,A60,H⟩:=H;(try dsimp only at H);have A6:=am A60;clear A60
  by_cases c7 : t147 = true
  ·subst c7;rw [if_pos rfl] at H;replace H:=bS.mp H;obtain ⟨t148,A80,H⟩:=H;(try dsimp only at H);have A8:=am A80;clear A80
   by_cases c9 : t148 = true
   ·subst c9;rw [if_pos rfl] at H;have H':=am H;clear H;obtain ⟨hcz10_0,hcz10_1,hfz10_0,hfz10_1⟩:=bcl2 BK146.out;go_wp2_with (first | ((with_reducible refine gate_callee (f:=26) rfl ?_);refine goesL_ (some 10) rfl rfl Try.func26 (by kernel_rfl) rfl #[.agg #[.int .i64 a0_0,.int .i64 a0_1]] rfl qq187 ?_;(with_reducible refine (impl_IsRule.calls a0_0 a0_1 true _ A6.out).mono ?_);rintro e w11 ⟨rfl,hb⟩;refine ⟨_,rfl,?_⟩;replace HO1:=am (Kd.V_below qq211 hb);replace BK146:=am qq406;replace HB:=am qq489;(try clear hb);(try clear hb2);(try clear hk);(try clear hi)) | (go_at_call 76;(with_reducible refine (impl_InRange.calls a2 0 200 true _ A8.out).mono ?_);rintro e w' ⟨rfl,⟨nd,rfl⟩⟩))
    go_meet
    case rel => exact ⟨_,(decide ((l1.length : Int) > 400)),qq311,H',⟨qq313⟩,⟨qq211⟩,⟨qq259⟩,⟨qq183⟩⟩
   ·replace c9:=Bool.eq_false_iff.mpr c9;subst c9;have H1 : (impl_WorstDays.j0 k l1 a2 true a0_0 a0_1) = some r:=by rw [if_neg (show ¬ (false = true) by decide)] at H;exact H
    clear H;have H:=H1;clear H1;have H':=am H;clear H;obtain ⟨hcz12_0,hcz12_1,hfz12_0,hfz12_1⟩:=bcl2 BK146.out;go_wp2_with (first | ((with_reducible refine gate_callee (f:=26) rfl ?_);refine goesL_ (some 10) rfl rfl Try.func26 (by kernel_rfl) rfl #[.agg #[.int .i64 a0_0,.int .i64 a0_1]] rfl qq187 ?_;(with_reducible refine (impl_IsRule.calls a0_0 a0_1 true _ A6.out).mono ?_);rintro e w13 ⟨rfl,hb⟩;refine ⟨_,rfl,?_⟩;replace HO1:=am (Kd.V_below qq211 hb);replace BK146:=am qq406;replace HB:=am qq489;(try clear hb);(try clear hb2);(try clear hk);(try clear hi)) | (go_at_call 76;(with_reducible refine (impl_InRange.calls a2 0 200 false _ A8.out).mono ?_);rintro e w' ⟨rfl,⟨nd,rfl⟩⟩))
    go_meet
    case rel => exact ⟨_,(true),qq311,H',⟨qq313⟩,⟨qq211⟩,⟨qq259⟩,⟨qq183⟩⟩
  ·replace c7:=Bool.eq_false_iff.mpr c7;subst c7;have H1 : (impl_WorstDays.j0 k l1 a2 true a0_0 a0_1) = some r:=by rw [if_neg (show ¬ (false = true) by decide)] at H;exact H
   clear H;have H:=H1;clear H1;have H':=am H;clear H;obtain ⟨hcz14_0,hcz14_1,hfz14_0,hfz14_1⟩:=bcl2 BK146.out;go_wp2_with (first | ((with_reducible refine gate_callee (f:=26) rfl ?_);refine goesL_ (some 10) rfl rfl Try.func26 (by kernel_rfl) rfl #[.agg #[.int .i64 a0_0,.int .i64 a0_1]] rfl qq187 ?_;(with_reducible refine (impl_IsRule.calls a0_0 a0_1 false _ A6.out).mono ?_);rintro e w15 ⟨rfl,hb⟩;refine ⟨_,rfl,?_⟩;replace HO1:=am (Kd.V_below qq211 hb);replace BK146:=am qq406;replace HB:=am qq489;(try clear hb);(try clear hb2);(try clear hk);(try clear hi)))
   go_meet
   case rel => exact ⟨_,(true),qq311,H',⟨qq313⟩,⟨qq211⟩,⟨qq259⟩,⟨qq183⟩⟩
 case rest =>
  clear HC4
  try clear c1
  try clear c2
  try clear p2
  try clear c7
  try clear c9
  try clear hcz10_0
  try clear hcz10_1
  try clear hcz12_0
  try clear hcz12_1
  try clear hcz14_0
  try clear hcz14_1
  try clear hfz10_0
  try clear hfz10_1
  try clear hfz12_0
  try clear hfz12_1
  try clear hfz14_0
  try clear hfz14_1
  obtain ⟨kq,x21_3,rfl,HA,HJ3,HO_1,BK146,HB⟩:=hcut
  cases kq with
  | zero => exact absurd HA.out (by simp [impl_WorstDays.j0])
  | succ kj3 =>
   have H:=HA.out;clear HA;simp only [impl_WorstDays.j0] at H
   by_cases c16 : x21_3 = true
   ·subst c16;rw [if_pos rfl] at H;obtain rfl:=Option.some.inj H;go_wp2
    go_ret
    exact ⟨qq263,qq183⟩
   ·replace c16:=Bool.eq_false_iff.mpr c16;subst c16;have H1 : (impl_WorstDays.l0 kj3 l1 a2 0 a0_0 a0_1) = some r:=by rw [if_neg (show ¬ (false = true) by decide)] at H;exact H
    clear H;have H:=H1;clear H1;have H':=am H;clear H;go_wp2
    go_loopg [1,2,7] kj3 (fun kq v1 v2 v7 w' => ∃ (x1_2 : List Bool) (x2_2 : Int) (x7_2 : Int),v2 = .int .i64 x2_2 ∧ v7 = .int .i64 x7_2 ∧ Aside0 (impl_WorstDays.l0 kq x1_2 x2_2 x7_2 a0_0 a0_1 = some r) ∧ Aside0 (kq ≤ kj3) ∧ Aside0 (Kd.V Kd.bool 4 w' w.heap.size (fun k_ => (P1_ k_ ∨ w.heap.size ≤ k_) ∧ k_ ≠ gb146) v1 x1_2) ∧ Aside0 (w'.heap[gb146]? = some (.cells #[.int .i64 a0_0,.int .i64 a0_1] 37 (0,0))) ∧ Aside0 (Below w.heap.size w w'))
    case atStart => exact ⟨(l1),(a2),(0),qq311,qq311,H',⟨Nat.le_refl _⟩,⟨qq209⟩,⟨qq259⟩,⟨qq183⟩⟩
    case round =>
     clear H'
     try clear c1
     try clear c2
     try clear p2
     try clear c7
     try clear c9
     try clear c16
     try clear hcz10_0
     try clear hcz10_1
     try clear hcz12_0
     try clear hcz12_1
     try clear hcz14_0
     try clear hcz14_1
     try clear hfz10_0
     try clear hfz10_1
     try clear hfz12_0
     try clear hfz12_1
     try clear hfz14_0
     try clear hfz14_1
     try clear p2
     obtain ⟨x1_2,x2_2,x7_2,rfl,rfl,HA,HK2,HO_1,BK146,HB⟩:=hrel
     cases gk with
     | zero => exact absurd HA.out (by simp [impl_WorstDays.l0])
     | succ k2 =>
      have H:=HA.out;clear HA;simp only [impl_WorstDays.l0] at H
      by_cases c17 : x2_2 > 0
      ·rw [if_pos c17] at H;have c17b0 : decide (0 < x2_2) = true:=decide_eq_true c17;clear c17;replace H:=bS.mp H;obtain ⟨t149,A180,H⟩:=H;(try dsimp only at H);have A18:=am A180;clear A180
       by_cases c19 : t149 = true
       ·subst c19;rw [if_pos rfl] at H;replace H:=bS.mp H;obtain ⟨t150,A200,H⟩:=H;(try dsimp only at H);have A20:=am A200;clear A200;have H':=am H;clear H;obtain ⟨hcz21_0,hcz21_1,hfz21_0,hfz21_1⟩:=bcl2 BK146.out;obtain ⟨Ao22,co22,eo22⟩:=Kd.V_slice HO_1.out;subst eo22;go_wp2_with (first | ((with_reducible refine gate_callee (f:=83) rfl ?_);refine goesL_ (some 26) rfl rfl Try.func83 (by kernel_rfl) rfl #[.agg #[.int .i64 a0_0,.int .i64 a0_1],.slice Ao22 x1_2.length co22] rfl qq187 ?_;(with_reducible refine (impl_MayStorm.calls k2 a0_0 a0_1 _ _ x1_2 true _ ?side1 ?side2 A18.out).mono ?_);(case side1 => exact qq133);(case side2 => exact qq327);rintro e w23 ⟨rfl,hb⟩;refine ⟨_,rfl,?_⟩;replace HO_1:=am (Kd.V_below qq209 hb);replace BK146:=am qq406;replace HB:=am qq489;(try clear hb);(try clear hb2);(try clear hk);(try clear hi)) | ((with_reducible refine gate_callee (f:=82) rfl ?_);refine goesL_ (some 33) rfl rfl Try.func82 (by kernel_rfl) rfl #[.slice Ao22 x1_2.length co22,.bool true] rfl qq187 ?_;(with_reducible refine (impl_AddDay.calls _ _ x1_2 true t150 _ ?side1 ?side2 A20.out).mono ?_);(case side1 => exact qq133);(case side2 => exact qq327);rintro e w24 ⟨v151,rfl,ho0,hb⟩;refine ⟨_,rfl,?_⟩;replace HO_1:=am (Kd.V_elder' qq209 (Kd.R_base ho0) hb);have HO152:=am qq361;replace BK146:=am qq406;replace HB:=am qq489;(try clear hb);(try clear hb2);(try clear hk);(try clear hi);(try clear ho0)))
        go_roundg k2
        case measure => have:=HJ3.out;have:=HK2.out;omega
        case rel => exact ⟨(t150),(x2_2),(wrap64 (x7_2 + 1)),qq311,qq311,H',⟨qq315⟩,⟨Kd.V_mono (Kd.R_V (by (with_reducible repeat (first | apply kA | apply kN | apply kD));exact Kd.R_mono (ok':=fun k => w.heap.size ≤ k ∧ k ≠ gb146) (Kd.R_types HO152.out BK146.out (by decide)) (fun _ hk => ⟨hk.1.1,hk.2⟩))) (fun k_ hk => by first | exact ⟨(.inr (hk.1)),hk.2⟩ | exact (.inr (hk)))⟩,⟨qq259⟩,⟨qq183⟩⟩
       ·replace c19:=Bool.eq_false_iff.mpr c19;subst c19;have H1 : ((impl_AddDay.f x1_2 false).bind fun t153 => (impl_WorstDays.l0 k2 t153 (wrap64 (x2_2 - 1)) (wrap64 (x7_2 + 1)) a0_0 a0_1)) = some r:=by rw [if_neg (show ¬ (false = true) by decide)] at H;exact H
        clear H;have H:=H1;clear H1;replace H:=bS.mp H;obtain ⟨t153,A250,H⟩:=H;(try dsimp only at H);have A25:=am A250;clear A250;have H':=am H;clear H;obtain ⟨hcz26_0,hcz26_1,hfz26_0,hfz26_1⟩:=bcl2 BK146.out;obtain ⟨Ao27,co27,eo27⟩:=Kd.V_slice HO_1.out;subst eo27;go_wp2_with (first | ((with_reducible refine gate_callee (f:=83) rfl ?_);refine goesL_ (some 26) rfl rfl Try.func83 (by kernel_rfl) rfl #[.agg #[.int .i64 a0_0,.int .i64 a0_1],.slice Ao27 x1_2.length co27] rfl qq187 ?_;(with_reducible refine (impl_MayStorm.calls k2 a0_0 a0_1 _ _ x1_2 false _ ?side1 ?side2 A18.out).mono ?_);(case side1 => exact qq133);(case side2 => exact qq327);rintro e w28 ⟨rfl,hb⟩;refine ⟨_,rfl,?_⟩;replace HO_1:=am (Kd.V_below qq209 hb);replace BK146:=am qq406;replace HB:=am qq489;(try clear hb);(try clear hb2);(try clear hk);(try clear hi)) | ((with_reducible refine gate_callee (f:=82) rfl ?_);refine goesL_ (some 33) rfl rfl Try.func82 (by kernel_rfl) rfl #[.slice Ao27 x1_2.length co27,.bool false] rfl qq187 ?_;(with_reducible refine (impl_AddDay.calls _ _ x1_2 false t153 _ ?side1 ?side2 A25.out).mono ?_);(case side1 => exact qq133);(case side2 => exact qq327);rintro e w29 ⟨v154,rfl,ho0,hb⟩;refine ⟨_,rfl,?_⟩;replace HO_1:=am (Kd.V_elder' qq209 (Kd.R_base ho0) hb);have HO155:=am qq361;replace BK146:=am qq406;replace HB:=am qq489;(try clear hb);(try clear hb2);(try clear hk);(try clear hi);(try clear ho0)))
        go_roundg k2
        case measure => have:=HJ3.out;have:=HK2.out;omega
        case rel => exact ⟨(t153),(wrap64 (x2_2 - 1)),(wrap64 (x7_2 + 1)),qq311,qq311,H',⟨qq315⟩,⟨Kd.V_mono (Kd.R_V (by (with_reducible repeat (first | apply kA | apply kN | apply kD));exact Kd.R_mono (ok':=fun k => w.heap.size ≤ k ∧ k ≠ gb146) (Kd.R_types HO155.out BK146.out (by decide)) (fun _ hk => ⟨hk.1.1,hk.2⟩))) (fun k_ hk => by first | exact ⟨(.inr (hk.1)),hk.2⟩ | exact (.inr (hk)))⟩,⟨qq259⟩,⟨qq183⟩⟩
      ·rw [if_neg c17] at H;have c17b0 : decide (0 < x2_2) = false:=decide_eq_false c17;clear c17;obtain rfl:=Option.some.inj H;go_wp2
       go_ret
       exact ⟨qq263,qq183⟩

/-! ### impl_allIn: function 146 -/
def impl_allIn.l0 : Nat → Int → Int → List Int → Int → Int → Option (Bool)
 | 0,_,_,_,_,_ => none
 | k + 1,x1,x2,x9,x10,x11 => if x11 < x10 then (if 0 ≤ x11 then (if x11 < (x9.length : Int) then ((impl_InRange.f (rd x9 x11) x1 x2).bind fun t157 => (if t157 = true then (impl_allIn.l0 k x1 x2 x9 x10 (wrap64 (x11 + 1))) else (some false))) else (none)) else (none)) else (some true)
def impl_allIn.f (k : Nat) (l0 : List Int) (a1 : Int) (a2 : Int) : Option (Bool) := impl_allIn.l0 k a1 a2 l0 (l0.length : Int) 0
set_option maxHeartbeats 8000000 in
set_option maxRecDepth 100000 in
theorem impl_allIn.calls (k : Nat) (A0 : Option Addr) (c0 : Nat) (l0 : List Int) (a1 : Int) (a2 : Int) (r : Bool) (w : World) (hr0 : Kd.C (Kd.int .i64) w A0 l0.length l0) (hc0 : l0.length ≤ c0) (h : impl_allIn.f k l0 a1 a2 = some r) :
  Calls Try.prog 146 #[.slice A0 l0.length c0,.int .i64 a1,.int .i64 a2] w fun e w' => e = .returned (.bool r) ∧ Drawn0 w w':=by
 have HR0:=am hr0;have HC0:=am hc0;clear hr0 hc0;have H : (impl_allIn.l0 k a1 a2 l0 (l0.length : Int) 0) = some r:=h;clear h;have H':=am H;clear H
 go_enter Try.func146,Try.ntmps146
 go_wp2
 go_loopg [11] k (fun kq v11 w' => ∃ (x11_1 : Int),v11 = .int .i64 x11_1 ∧ Aside0 (impl_allIn.l0 kq a1 a2 l0 (l0.length : Int) x11_1 = some r) ∧ Aside0 (kq ≤ k) ∧ Drawn0 w w')
 case atStart => exact ⟨(0),qq311,H',⟨Nat.le_refl _⟩,qq307⟩
 case round =>
  clear H'
  try clear c1
  try clear p2
  obtain ⟨x11_1,rfl,HA,HK1,⟨m1,rfl⟩⟩:=hrel
  cases gk with
  | zero => exact absurd HA.out (by simp [impl_allIn.l0])
  | succ k1 =>
   have H:=HA.out;clear HA;simp only [impl_allIn.l0] at H
   by_cases c4 : x11_1 < (l0.length : Int)
   ·rw [if_pos c4] at H;have c4b0 : decide (x11_1 < (l0.length : Int)) = true:=decide_eq_true c4;clear c4
    by_cases c5 : 0 ≤ x11_1
    ·rw [if_pos c5] at H;have c5b0 : decide (0 ≤ x11_1) = true:=decide_eq_true c5;clear c5
     by_cases c6 : x11_1 < (l0.length : Int)
     ·rw [if_pos c6] at H;have c6b0 : decide (x11_1 < (l0.length : Int)) = true:=decide_eq_true c6;clear c6;replace H:=bS.mp H;obtain ⟨t157,A70,H⟩:=H;(try dsimp only at H);have A7:=am A70;clear A70
      by_cases c8 : t157 = true
      ·subst c8;rw [if_pos rfl] at H;have H':=am H;clear H;have p156 : 0 ≤ (x11_1 : Int):=odt qq309;have q156 : x11_1 < (l0.length : Int):=odt qq309;obtain ⟨ad156,e156,hx156_0⟩:=Kd.at_int HR0.out x11_1 p156 q156
       cases e156
       replace p156:=eq_true p156;replace q156:=eq_true q156;go_wp2_with (first | ((with_reducible refine gate_callee (f:=76) rfl ?_);refine goesL_ (some 18) rfl rfl Try.func76 (by kernel_rfl) rfl #[.int .i64 (rd l0 x11_1),.int .i64 a1,.int .i64 a2] rfl qq187 ?_;(with_reducible refine (impl_InRange.calls (rd l0 x11_1) a1 a2 true _ A7.out).mono ?_);rintro e w' ⟨rfl,⟨nd,rfl⟩⟩;refine ⟨_,rfl,?_⟩))
       go_roundg k1
       case measure => have:=HK1.out;omega
       case rel => exact ⟨(wrap64 (x11_1 + 1)),qq311,H',⟨qq331⟩,qq307⟩
      ·replace c8:=Bool.eq_false_iff.mpr c8;subst c8;have H1 : (some false) = some r:=by rw [if_neg (show ¬ (false = true) by decide)] at H;exact H
       clear H;have H:=H1;clear H1;obtain rfl:=Option.some.inj H;have p156 : 0 ≤ (x11_1 : Int):=odt qq309;have q156 : x11_1 < (l0.length : Int):=odt qq309;obtain ⟨ad156,e156,hx156_0⟩:=Kd.at_int HR0.out x11_1 p156 q156
       cases e156
       replace p156:=eq_true p156;replace q156:=eq_true q156;go_wp2_with (first | ((with_reducible refine gate_callee (f:=76) rfl ?_);refine goesL_ (some 18) rfl rfl Try.func76 (by kernel_rfl) rfl #[.int .i64 (rd l0 x11_1),.int .i64 a1,.int .i64 a2] rfl qq187 ?_;(with_reducible refine (impl_InRange.calls (rd l0 x11_1) a1 a2 false _ A7.out).mono ?_);rintro e w' ⟨rfl,⟨nd,rfl⟩⟩;refine ⟨_,rfl,?_⟩))
       go_ret
       exact ⟨qq311,qq307⟩
     ·rw [if_neg c6] at H;exact absurd H (by simp)
    ·rw [if_neg c5] at H;exact absurd H (by simp)
   ·rw [if_neg c4] at H;have c4b0 : decide (x11_1 < (l0.length : Int)) = false:=decide_eq_false c4;clear c4;obtain rfl:=Option.some.inj H;go_wp2
    go_ret
    exact ⟨qq311,qq307⟩

/-! ### impl_IsLand: function 132 -/
def impl_IsLand.f (k : Nat) (a0_0 : Int) (a0_1 : Int) (l0_2 : List Int) : Option (Bool) := (impl_InRange.f a0_0 1 8).bind fun t159 => (if t159 = true then ((impl_InRange.f a0_1 1 8).bind fun t160 => (if t160 = true then (if (l0_2.length : Int) = (wrap64 (a0_0 * a0_1)) then ((impl_allIn.f k l0_2 0 2).bind fun t161 => (some t161)) else (some false)) else (some false))) else (some false))
set_option maxHeartbeats 8000000 in
set_option maxRecDepth 100000 in
theorem impl_IsLand.calls (k : Nat) (a0_0 : Int) (a0_1 : Int) (A0_2 : Option Addr) (c0_2 : Nat) (l0_2 : List Int) (r : Bool) (w : World) (hr0_2 : Kd.C (Kd.int .i64) w A0_2 l0_2.length l0_2) (hc0_2 : l0_2.length ≤ c0_2) (h : impl_IsLand.f k a0_0 a0_1 l0_2 = some r) :
  Calls Try.prog 132 #[.agg #[.int .i64 a0_0,.int .i64 a0_1,.slice A0_2 l0_2.length c0_2]] w fun e w' => e = .returned (.bool r) ∧ Below w.heap.size w w':=by
 have hu51:=Try.underlying51;have HR0_2:=am hr0_2;have HC0_2:=am hc0_2;clear hr0_2 hc0_2;have HB:=am qq465;have H : ((impl_InRange.f a0_0 1 8).bind fun t159 => (if t159 = true then ((impl_InRange.f a0_1 1 8).bind fun t160 => (if t160 = true then (if (l0_2.length : Int) = (wrap64 (a0_0 * a0_1)) then ((impl_allIn.f k l0_2 0 2).bind fun t161 => (some t161)) else (some false)) else (some false))) else (some false))) = some r:=h;clear h;replace H:=bS.mp H;obtain ⟨t159,A20,H⟩:=H;(try dsimp only at H);have A2:=am A20;clear A20
 by_cases c3 : t159 = true
 ·subst c3;rw [if_pos rfl] at H;replace H:=bS.mp H;obtain ⟨t160,A40,H⟩:=H;(try dsimp only at H);have A4:=am A40;clear A40
  by_cases c5 : t160 = true
  ·subst c5;rw [if_pos rfl] at H
   by_cases c6 : (l0_2.length : Int) = (wrap64 (a0_0 * a0_1))
   ·rw [if_pos c6] at H;have c6b0 : ((l0_2.length : Int) == (wrap64 (a0_0 * a0_1))) = true:=beq_iff_eq.mpr c6;have c6b1 : ((l0_2.length : Int) != (wrap64 (a0_0 * a0_1))) = false:=bne_eq_false_iff_eq.mpr c6;clear c6;replace H:=bS.mp H;obtain ⟨t161,A70,H⟩:=H;(try dsimp only at H);have A7:=am A70;clear A70;obtain rfl:=Option.some.inj H
    go_enter Try.func132,Try.ntmps132
    go_wp2_with (first | ((with_reducible refine gate_dst (N:=1) rfl ?_);(try (refine gate_guard (by rfl) ?_;dsimp only));refine box_event ?hg (N:=1) ?hd (cs:=#[.int .i64 a0_0,.int .i64 a0_1,.slice A0_2 l0_2.length c0_2]) (t:=51) ?hr ?_;(case hd => rfl);(case hg => rfl);(case hr => exact qq312);intro gb158 hg w8 hbox hb;have BK158:=am (hbox);have GW158:=am qq434;have GE158:=am qq434;replace HB:=am qq488;clear hb hbox hg;obtain ⟨hcz9_0,hcz9_1,hcz9_2,hfz9_0,hfz9_1,hfz9_2⟩:=bcl3 BK158.out) | ((with_reducible refine gate_callee (f:=76) rfl ?_);refine goesL_ (some 5) rfl rfl Try.func76 (by kernel_rfl) rfl #[.int .i64 a0_0,.int .i64 1,.int .i64 8] rfl qq187 ?_;(with_reducible refine (impl_InRange.calls a0_0 1 8 true _ A2.out).mono ?_);rintro e w' ⟨rfl,⟨nd,rfl⟩⟩;refine ⟨_,rfl,?_⟩) | (go_at_call 76;(with_reducible refine (impl_InRange.calls a0_1 1 8 true _ A4.out).mono ?_);rintro e w' ⟨rfl,⟨nd,rfl⟩⟩) | (go_at_call 146;(with_reducible refine (impl_allIn.calls k _ _ l0_2 0 2 t161 _ ?side1 ?side2 A7.out).mono ?_);(case side1 => repeat (first | exact (Kd.C_below HR0_2.out qq182) | (with_reducible refine cA ?_ _) | (with_reducible refine cN ?_ _) | (with_reducible refine cD ?_)));(case side2 => exact qq334);rintro e w' ⟨rfl,⟨nd,rfl⟩⟩))
    go_ret
    exact ⟨qq263,qq182⟩
   ·rw [if_neg c6] at H;have c6b0 : ((l0_2.length : Int) == (wrap64 (a0_0 * a0_1))) = false:=beq_eq_false_iff_ne.mpr c6;have c6b1 : ((l0_2.length : Int) != (wrap64 (a0_0 * a0_1))) = true:=bne_iff_ne.mpr c6;obtain rfl:=Option.some.inj H
    go_enter Try.func132,Try.ntmps132
    go_wp2_with (first | ((with_reducible refine gate_dst (N:=1) rfl ?_);(try (refine gate_guard (by rfl) ?_;dsimp only));refine box_event ?hg (N:=1) ?hd (cs:=#[.int .i64 a0_0,.int .i64 a0_1,.slice A0_2 l0_2.length c0_2]) (t:=51) ?hr ?_;(case hd => rfl);(case hg => rfl);(case hr => exact qq312);intro gb158 hg w10 hbox hb;have BK158:=am (hbox);have GW158:=am qq434;have GE158:=am qq434;replace HB:=am qq488;clear hb hbox hg;obtain ⟨hcz11_0,hcz11_1,hcz11_2,hfz11_0,hfz11_1,hfz11_2⟩:=bcl3 BK158.out) | ((with_reducible refine gate_callee (f:=76) rfl ?_);refine goesL_ (some 5) rfl rfl Try.func76 (by kernel_rfl) rfl #[.int .i64 a0_0,.int .i64 1,.int .i64 8] rfl qq187 ?_;(with_reducible refine (impl_InRange.calls a0_0 1 8 true _ A2.out).mono ?_);rintro e w' ⟨rfl,⟨nd,rfl⟩⟩;refine ⟨_,rfl,?_⟩) | (go_at_call 76;(with_reducible refine (impl_InRange.calls a0_1 1 8 true _ A4.out).mono ?_);rintro e w' ⟨rfl,⟨nd,rfl⟩⟩))
    go_ret
    exact ⟨qq263,qq182⟩
  ·replace c5:=Bool.eq_false_iff.mpr c5;subst c5;have H1 : (some false) = some r:=by rw [if_neg (show ¬ (false = true) by decide)] at H;exact H
   clear H;have H:=H1;clear H1;obtain rfl:=Option.some.inj H
   go_enter Try.func132,Try.ntmps132
   go_wp2_with (first | ((with_reducible refine gate_dst (N:=1) rfl ?_);(try (refine gate_guard (by rfl) ?_;dsimp only));refine box_event ?hg (N:=1) ?hd (cs:=#[.int .i64 a0_0,.int .i64 a0_1,.slice A0_2 l0_2.length c0_2]) (t:=51) ?hr ?_;(case hd => rfl);(case hg => rfl);(case hr => exact qq312);intro gb158 hg w12 hbox hb;have BK158:=am (hbox);have GW158:=am qq434;have GE158:=am qq434;replace HB:=am qq488;clear hb hbox hg;obtain ⟨hcz13_0,hcz13_1,hcz13_2,hfz13_0,hfz13_1,hfz13_2⟩:=bcl3 BK158.out) | ((with_reducible refine gate_callee (f:=76) rfl ?_);refine goesL_ (some 5) rfl rfl Try.func76 (by kernel_rfl) rfl #[.int .i64 a0_0,.int .i64 1,.int .i64 8] rfl qq187 ?_;(with_reducible refine (impl_InRange.calls a0_0 1 8 true _ A2.out).mono ?_);rintro e w' ⟨rfl,⟨nd,rfl⟩⟩;refine ⟨_,rfl,?_⟩) | (go_at_call 76;(with_reducible refine (impl_InRange.calls a0_1 1 8 false _ A4.out).mono ?_);rintro e w' ⟨rfl,⟨nd,rfl⟩⟩))
   go_ret
   exact ⟨qq263,qq182⟩
 ·replace c3:=Bool.eq_false_iff.mpr c3;subst c3;have H1 : (some false) = some r:=by rw [if_neg (show ¬ (false = true) by decide)] at H;exact H
  clear H;have H:=H1;clear H1;obtain rfl:=Option.some.inj H
  go_enter Try.func132,Try.ntmps132
  go_wp2_with (first | ((with_reducible refine gate_dst (N:=1) rfl ?_);(try (refine gate_guard (by rfl) ?_;dsimp only));refine box_event ?hg (N:=1) ?hd (cs:=#[.int .i64 a0_0,.int .i64 a0_1,.slice A0_2 l0_2.length c0_2]) (t:=51) ?hr ?_;(case hd => rfl);(case hg => rfl);(case hr => exact qq312);intro gb158 hg w14 hbox hb;have BK158:=am (hbox);have GW158:=am qq434;have GE158:=am qq434;replace HB:=am qq488;clear hb hbox hg;obtain ⟨hcz15_0,hcz15_1,hcz15_2,hfz15_0,hfz15_1,hfz15_2⟩:=bcl3 BK158.out) | ((with_reducible refine gate_callee (f:=76) rfl ?_);refine goesL_ (some 5) rfl rfl Try.func76 (by kernel_rfl) rfl #[.int .i64 a0_0,.int .i64 1,.int .i64 8] rfl qq187 ?_;(with_reducible refine (impl_InRange.calls a0_0 1 8 false _ A2.out).mono ?_);rintro e w' ⟨rfl,⟨nd,rfl⟩⟩;refine ⟨_,rfl,?_⟩))
  go_ret
  exact ⟨qq263,qq182⟩

/-! ### impl_IsCell: function 98 -/
def impl_IsCell.f (k : Nat) (a0_0 : Int) (a0_1 : Int) (l0_2 : List Int) (a1 : Int) : Option (Bool) := (impl_IsLand.f k a0_0 a0_1 l0_2).bind fun t163 => (if t163 = true then ((impl_InRange.f a1 0 (wrap64 ((l0_2.length : Int) - 1))).bind fun t164 => (some t164)) else (some false))
set_option maxHeartbeats 8000000 in
set_option maxRecDepth 100000 in
theorem impl_IsCell.calls (k : Nat) (a0_0 : Int) (a0_1 : Int) (A0_2 : Option Addr) (c0_2 : Nat) (l0_2 : List Int) (a1 : Int) (r : Bool) (w : World) (hr0_2 : Kd.C (Kd.int .i64) w A0_2 l0_2.length l0_2) (hc0_2 : l0_2.length ≤ c0_2) (h : impl_IsCell.f k a0_0 a0_1 l0_2 a1 = some r) :
  Calls Try.prog 98 #[.agg #[.int .i64 a0_0,.int .i64 a0_1,.slice A0_2 l0_2.length c0_2],.int .i64 a1] w fun e w' => e = .returned (.bool r) ∧ Below w.heap.size w w':=by
 have hu51:=Try.underlying51;have HR0_2:=am hr0_2;have HC0_2:=am hc0_2;clear hr0_2 hc0_2;have HB:=am qq465;have H : ((impl_IsLand.f k a0_0 a0_1 l0_2).bind fun t163 => (if t163 = true then ((impl_InRange.f a1 0 (wrap64 ((l0_2.length : Int) - 1))).bind fun t164 => (some t164)) else (some false))) = some r:=h;clear h;replace H:=bS.mp H;obtain ⟨t163,A30,H⟩:=H;(try dsimp only at H);have A3:=am A30;clear A30
 by_cases c4 : t163 = true
 ·subst c4;rw [if_pos rfl] at H;replace H:=bS.mp H;obtain ⟨t164,A50,H⟩:=H;(try dsimp only at H);have A5:=am A50;clear A50;obtain rfl:=Option.some.inj H
  go_enter Try.func98,Try.ntmps98
  go_wp2_with (first | ((with_reducible refine gate_dst (N:=2) rfl ?_);(try (refine gate_guard (by rfl) ?_;dsimp only));refine box_event ?hg (N:=2) ?hd (cs:=#[.int .i64 a0_0,.int .i64 a0_1,.slice A0_2 l0_2.length c0_2]) (t:=51) ?hr ?_;(case hd => rfl);(case hg => rfl);(case hr => exact qq312);intro gb162 hg w6 hbox hb;have BK162:=am (hbox);have GW162:=am qq435;have GE162:=am qq435;replace HB:=am qq488;clear hb hbox hg;obtain ⟨hcz7_0,hcz7_1,hcz7_2,hfz7_0,hfz7_1,hfz7_2⟩:=bcl3 BK162.out) | ((with_reducible refine gate_callee (f:=132) rfl ?_);refine goesL_ (some 6) rfl rfl Try.func132 (by kernel_rfl) rfl #[.agg #[.int .i64 a0_0,.int .i64 a0_1,.slice A0_2 l0_2.length c0_2]] rfl qq187 ?_;(with_reducible refine (impl_IsLand.calls k a0_0 a0_1 _ _ l0_2 true _ ?side1 ?side2 A3.out).mono ?_);(case side1 => exact qq117);(case side2 => exact qq334);rintro e w8 ⟨rfl,hb⟩;refine ⟨_,rfl,?_⟩;replace BK162:=am qq366;replace HB:=am (below_step qq181 hb);(try clear hb);(try clear hb2);(try clear hk);(try clear hi);obtain ⟨hcz9_0,hcz9_1,hcz9_2,hfz9_0,hfz9_1,hfz9_2⟩:=bcl3 BK162.out) | (go_at_call 76;(with_reducible refine (impl_InRange.calls a1 0 (wrap64 ((l0_2.length : Int) - 1)) t164 _ A5.out).mono ?_);rintro e w' ⟨rfl,⟨nd,rfl⟩⟩))
  go_ret
  exact ⟨qq263,qq181⟩
 ·replace c4:=Bool.eq_false_iff.mpr c4;subst c4;have H1 : (some false) = some r:=by rw [if_neg (show ¬ (false = true) by decide)] at H;exact H
  clear H;have H:=H1;clear H1;obtain rfl:=Option.some.inj H
  go_enter Try.func98,Try.ntmps98
  go_wp2_with (first | ((with_reducible refine gate_dst (N:=2) rfl ?_);(try (refine gate_guard (by rfl) ?_;dsimp only));refine box_event ?hg (N:=2) ?hd (cs:=#[.int .i64 a0_0,.int .i64 a0_1,.slice A0_2 l0_2.length c0_2]) (t:=51) ?hr ?_;(case hd => rfl);(case hg => rfl);(case hr => exact qq312);intro gb162 hg w10 hbox hb;have BK162:=am (hbox);have GW162:=am qq435;have GE162:=am qq435;replace HB:=am qq488;clear hb hbox hg;obtain ⟨hcz11_0,hcz11_1,hcz11_2,hfz11_0,hfz11_1,hfz11_2⟩:=bcl3 BK162.out) | ((with_reducible refine gate_callee (f:=132) rfl ?_);refine goesL_ (some 6) rfl rfl Try.func132 (by kernel_rfl) rfl #[.agg #[.int .i64 a0_0,.int .i64 a0_1,.slice A0_2 l0_2.length c0_2]] rfl qq187 ?_;(with_reducible refine (impl_IsLand.calls k a0_0 a0_1 _ _ l0_2 false _ ?side1 ?side2 A3.out).mono ?_);(case side1 => exact qq117);(case side2 => exact qq334);rintro e w12 ⟨rfl,hb⟩;refine ⟨_,rfl,?_⟩;replace BK162:=am qq366;replace HB:=am (below_step qq181 hb);(try clear hb);(try clear hb2);(try clear hk);(try clear hi)))
  go_ret
  exact ⟨qq263,qq181⟩

/-! ### impl_IsOpen: function 49 -/
def impl_IsOpen.f (k : Nat) (a0_0 : Int) (a0_1 : Int) (l0_2 : List Int) (a1 : Int) : Option (Bool) := (impl_IsCell.f k a0_0 a0_1 l0_2 a1).bind fun t166 => (if t166 = true then (if 0 ≤ a1 then (if a1 < (l0_2.length : Int) then (some ((rd l0_2 a1) != 2)) else (none)) else (none)) else (some false))
set_option maxHeartbeats 8000000 in
set_option maxRecDepth 100000 in
theorem impl_IsOpen.calls (k : Nat) (a0_0 : Int) (a0_1 : Int) (A0_2 : Option Addr) (c0_2 : Nat) (l0_2 : List Int) (a1 : Int) (r : Bool) (w : World) (hr0_2 : Kd.C (Kd.int .i64) w A0_2 l0_2.length l0_2) (hc0_2 : l0_2.length ≤ c0_2) (h : impl_IsOpen.f k a0_0 a0_1 l0_2 a1 = some r) :
  Calls Try.prog 49 #[.agg #[.int .i64 a0_0,.int .i64 a0_1,.slice A0_2 l0_2.length c0_2],.int .i64 a1] w fun e w' => e = .returned (.bool r) ∧ Below w.heap.size w w':=by
 have hu51:=Try.underlying51;have HR0_2:=am hr0_2;have HC0_2:=am hc0_2;clear hr0_2 hc0_2;have HB:=am qq465;have H : ((impl_IsCell.f k a0_0 a0_1 l0_2 a1).bind fun t166 => (if t166 = true then (if 0 ≤ a1 then (if a1 < (l0_2.length : Int) then (some ((rd l0_2 a1) != 2)) else (none)) else (none)) else (some false))) = some r:=h;clear h;replace H:=bS.mp H;obtain ⟨t166,A30,H⟩:=H;(try dsimp only at H);have A3:=am A30;clear A30
 by_cases c4 : t166 = true
 ·subst c4;rw [if_pos rfl] at H
  by_cases c5 : 0 ≤ a1
  ·rw [if_pos c5] at H;have c5b0 : decide (0 ≤ a1) = true:=decide_eq_true c5;clear c5
   by_cases c6 : a1 < (l0_2.length : Int)
   ·rw [if_pos c6] at H;have c6b0 : decide (a1 < (l0_2.length : Int)) = true:=decide_eq_true c6;clear c6;obtain rfl:=Option.some.inj H
    go_enter Try.func49,Try.ntmps49
    go_wp2_with (first | ((with_reducible refine gate_dst (N:=2) rfl ?_);refine box_event ?hg (N:=2) ?hd (cs:=#[.int .i64 a0_0,.int .i64 a0_1,.slice A0_2 l0_2.length c0_2]) (t:=51) ?hr ?_;(case hd => rfl);(case hg => rfl);(case hr => exact qq312);intro gb165 hg w7 hbox hb;have BK165:=am (hbox);have GW165:=am qq436;have GE165:=am qq436;replace HB:=am qq488;clear hb hbox hg;obtain ⟨hcz8_0,hcz8_1,hcz8_2,hfz8_0,hfz8_1,hfz8_2⟩:=bcl3 BK165.out) | ((with_reducible refine gate_callee (f:=98) rfl ?_);refine goesL_ (some 7) rfl rfl Try.func98 (by kernel_rfl) rfl #[.agg #[.int .i64 a0_0,.int .i64 a0_1,.slice A0_2 l0_2.length c0_2],.int .i64 a1] rfl qq187 ?_;(with_reducible refine (impl_IsCell.calls k a0_0 a0_1 _ _ l0_2 a1 true _ ?side1 ?side2 A3.out).mono ?_);(case side1 => exact qq117);(case side2 => exact qq334);rintro e w9 ⟨rfl,hb⟩;refine ⟨_,rfl,?_⟩;replace BK165:=am qq367;replace HB:=am (below_step qq180 hb);(try clear hb);(try clear hb2);(try clear hk);(try clear hi);obtain ⟨hcz10_0,hcz10_1,hcz10_2,hfz10_0,hfz10_1,hfz10_2⟩:=bcl3 BK165.out;have p167 : 0 ≤ (a1 : Int):=odt qq309;have q167 : a1 < (l0_2.length : Int):=odt qq309;obtain ⟨ad167,e167,hx167_0⟩:=Kd.at_int HR0_2.out a1 p167 q167;cases e167;replace hx167_0:=(ct HB.out hx167_0 :);replace p167:=eq_true p167;replace q167:=eq_true q167))
    go_ret
    exact ⟨qq263,qq180⟩
   ·rw [if_neg c6] at H;exact absurd H (by simp)
  ·rw [if_neg c5] at H;exact absurd H (by simp)
 ·replace c4:=Bool.eq_false_iff.mpr c4;subst c4;have H1 : (some false) = some r:=by rw [if_neg (show ¬ (false = true) by decide)] at H;exact H
  clear H;have H:=H1;clear H1;obtain rfl:=Option.some.inj H
  go_enter Try.func49,Try.ntmps49
  go_wp2_with (first | ((with_reducible refine gate_dst (N:=2) rfl ?_);refine box_event ?hg (N:=2) ?hd (cs:=#[.int .i64 a0_0,.int .i64 a0_1,.slice A0_2 l0_2.length c0_2]) (t:=51) ?hr ?_;(case hd => rfl);(case hg => rfl);(case hr => exact qq312);intro gb165 hg w11 hbox hb;have BK165:=am (hbox);have GW165:=am qq436;have GE165:=am qq436;replace HB:=am qq488;clear hb hbox hg;obtain ⟨hcz12_0,hcz12_1,hcz12_2,hfz12_0,hfz12_1,hfz12_2⟩:=bcl3 BK165.out) | ((with_reducible refine gate_callee (f:=98) rfl ?_);refine goesL_ (some 7) rfl rfl Try.func98 (by kernel_rfl) rfl #[.agg #[.int .i64 a0_0,.int .i64 a0_1,.slice A0_2 l0_2.length c0_2],.int .i64 a1] rfl qq187 ?_;(with_reducible refine (impl_IsCell.calls k a0_0 a0_1 _ _ l0_2 a1 false _ ?side1 ?side2 A3.out).mono ?_);(case side1 => exact qq117);(case side2 => exact qq334);rintro e w13 ⟨rfl,hb⟩;refine ⟨_,rfl,?_⟩;replace BK165:=am qq367;replace HB:=am (below_step qq180 hb);(try clear hb);(try clear hb2);(try clear hk);(try clear hi)))
  go_ret
  exact ⟨qq263,qq180⟩

/-! ### impl_size: function 99 -/
def impl_size.f (a0 : Int) : Option (Int) := some (mx a0 (wrap64 (-a0)))
set_option maxHeartbeats 8000000 in
set_option maxRecDepth 100000 in
theorem impl_size.calls (a0 : Int) (r : Int) (w : World) (h : impl_size.f a0 = some r) :
  Calls Try.prog 99 #[.int .i64 a0] w fun e w' => e = .returned (.int .i64 r) ∧ Below w.heap.size w w':=by
 have HB:=am qq465;have H : (some (mx a0 (wrap64 (-a0)))) = some r:=h;clear h;obtain ⟨ji2,hji2⟩ : ∃ j_ : Int,(mx a0 (wrap64 (-a0))) = j_:=⟨_,rfl⟩
 replace H : (some ji2) = some r:=by first | (rw [hji2] at H;exact H) | (simp only [hji2] at H ⊢;exact H)
 have hji2_ : (if a0 < (wrap64 (-a0)) then (wrap64 (-a0)) else a0) = ji2:=hji2;obtain rfl:=Option.some.inj H
 go_enter Try.func99,Try.ntmps99
 go_wp2
 go_ret
 exact ⟨by first | rfl | (simp [errW_none,errW_some] <;> rfl) | (simp only [← hji2];first | rfl | (simp [errW_none,errW_some] <;> rfl)) | (simp [*,errW_none,errW_some] <;> rfl),qq208⟩

end Go.Proofs.Ytcbkknpmeknppaa.PFnExactPlanFood
