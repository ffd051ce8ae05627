/- Contracts of functions that the law FnExactPlanFood reaches, for its row: lines that the kit's printer wrote for this claim, set shorter by a program of this session (own.py), and what fell in Lean proved anew. Lean checks them. -/
import Derived.Test.YtcbkknpmeknppaaSFnExactPlanFoodx0
import Derived.Test.YtcbkknpmeknppaaSFnExactPlanFoodx10
namespace Go.Proofs.Ytcbkknpmeknppaa.PFnExactPlanFood
open Go.RowKit Go.Proofs.YtcbkknpmeknppaaW.PrintWords Go.Proofs.YtcbkknpmeknppaaW.PrintLast Go.Proofs.YtcbkknpmeknppaaW.PrintMore
attribute [local go_sem] max2_int min2_int max_two min_two max_three min_three max_four min_four   -- for this text's walks alone
set_option linter.unusedVariables false
set_option linter.unusedSimpArgs false

/-! ### spec_IsRule: function 139 -/
def spec_IsRule.f (a0_0 : Int) (a0_1 : Int) : Option (Bool) := (spec_l1In.f a0_1 1 10).bind fun t462 => (if t462 = true then ((spec_l1In.f a0_0 0 (wrap64 (a0_1 - 1))).bind fun t463 => (some t463)) else (some false))
set_option maxHeartbeats 8000000 in
set_option maxRecDepth 100000 in
theorem spec_IsRule.calls (a0_0 : Int) (a0_1 : Int) (r : Bool) (w : World) (h : spec_IsRule.f a0_0 a0_1 = some r) :
  Calls Try.prog 139 #[.agg #[.int .i64 a0_0,.int .i64 a0_1]] w fun e w' => e = .returned (.bool r) ∧ Below w.heap.size w w':=by
 have hu37:=Try.underlying37;have HB:=am qq465;have H : ((spec_l1In.f a0_1 1 10).bind fun t462 => (if t462 = true then ((spec_l1In.f a0_0 0 (wrap64 (a0_1 - 1))).bind fun t463 => (some t463)) else (some false))) = some r:=h;clear h;replace H:=bS.mp H;obtain ⟨t462,A20,H⟩:=H;(try dsimp only at H);have A2:=am A20;clear A20
 by_cases c3 : t462 = true
 ·subst c3;rw [if_pos rfl] at H;replace H:=bS.mp H;obtain ⟨t463,A40,H⟩:=H;(try dsimp only at H);have A4:=am A40;clear A40;obtain rfl:=Option.some.inj H
  go_enter Try.func139,Try.ntmps139
  go_wp2_with (first | ((with_reducible refine gate_dst (N:=1) rfl ?_);refine box_event ?hg (N:=1) ?hd (cs:=#[.int .i64 a0_0,.int .i64 a0_1]) (t:=37) ?hr ?_;(case hd => rfl);(case hg => rfl);(case hr => exact qq312);intro gb461 hg w5 hbox hb;have BK461:=am (hbox);have GW461:=am qq451;have GE461:=am qq451;replace HB:=am qq488;clear hb hbox hg;obtain ⟨hcz6_0,hcz6_1,hfz6_0,hfz6_1⟩:=bcl2 BK461.out) | ((with_reducible refine gate_callee (f:=104) rfl ?_);refine goesL_ (some 5) rfl rfl Try.func104 (by kernel_rfl) rfl #[.int .i64 a0_1,.int .i64 1,.int .i64 10] rfl qq187 ?_;(with_reducible refine (spec_l1In.calls a0_1 1 10 true _ A2.out).mono ?_);rintro e w' ⟨rfl,⟨nd,rfl⟩⟩;refine ⟨_,rfl,?_⟩) | (go_at_call 104;(with_reducible refine (spec_l1In.calls a0_0 0 (wrap64 (a0_1 - 1)) t463 _ A4.out).mono ?_);rintro e w' ⟨rfl,⟨nd,rfl⟩⟩))
  go_ret
  exact ⟨qq263,qq154⟩
 ·replace c3:=Bool.eq_false_iff.mpr c3;subst c3;have H1 : (some false) = some r:=by rw [if_neg (show ¬ (false = true) by decide)] at H;exact H
  clear H;have H:=H1;clear H1;obtain rfl:=Option.some.inj H
  go_enter Try.func139,Try.ntmps139
  go_wp2_with (first | ((with_reducible refine gate_dst (N:=1) rfl ?_);refine box_event ?hg (N:=1) ?hd (cs:=#[.int .i64 a0_0,.int .i64 a0_1]) (t:=37) ?hr ?_;(case hd => rfl);(case hg => rfl);(case hr => exact qq312);intro gb461 hg w7 hbox hb;have BK461:=am (hbox);have GW461:=am qq451;have GE461:=am qq451;replace HB:=am qq488;clear hb hbox hg;obtain ⟨hcz8_0,hcz8_1,hfz8_0,hfz8_1⟩:=bcl2 BK461.out) | ((with_reducible refine gate_callee (f:=104) rfl ?_);refine goesL_ (some 5) rfl rfl Try.func104 (by kernel_rfl) rfl #[.int .i64 a0_1,.int .i64 1,.int .i64 10] rfl qq187 ?_;(with_reducible refine (spec_l1In.calls a0_1 1 10 false _ A2.out).mono ?_);rintro e w' ⟨rfl,⟨nd,rfl⟩⟩;refine ⟨_,rfl,?_⟩))
  go_ret
  exact ⟨qq263,qq154⟩

/-! ### spec_CountStorms: function 143 -/
def spec_CountStorms.l0 : Nat → List Bool → Int → Int → Option (Int)
 | 0,_,_,_ => none
 | k + 1,x0,x3,x4 => if x4 < (x0.length : Int) then (if 0 ≤ x4 then (if rdOf false x0 x4 = true then (spec_CountStorms.l0 k x0 (wrap64 (x3 + 1)) (wrap64 (x4 + 1))) else (spec_CountStorms.l0 k x0 x3 (wrap64 (x4 + 1)))) else (none)) else (some x3)
def spec_CountStorms.f (k : Nat) (l0 : List Bool) : Option (Int) := spec_CountStorms.l0 k l0 0 0
set_option maxHeartbeats 8000000 in
set_option maxRecDepth 100000 in
theorem spec_CountStorms.calls (k : Nat) (A0 : Option Addr) (c0 : Nat) (l0 : List Bool) (r : Int) (w : World) (hr0 : Kd.C Kd.bool w A0 l0.length l0) (hc0 : l0.length ≤ c0) (h : spec_CountStorms.f k l0 = some r) :
  Calls Try.prog 143 #[.slice A0 l0.length c0] w fun e w' => e = .returned (.int .i64 r) ∧ Drawn0 w w':=by
 have HR0:=am hr0;have HC0:=am hc0;clear hr0 hc0;have H : (spec_CountStorms.l0 k l0 0 0) = some r:=h;clear h;have H':=am H;clear H
 go_enter Try.func143,Try.ntmps143
 go_wp2
 go_loopg [3,4] k (fun kq v3 v4 w' => ∃ (x3_1 : Int) (x4_1 : Int),v3 = .int .i64 x3_1 ∧ v4 = .int .i64 x4_1 ∧ Aside0 (spec_CountStorms.l0 kq l0 x3_1 x4_1 = some r) ∧ Aside0 (kq ≤ k) ∧ Drawn0 w w')
 case atStart => exact ⟨(0),(0),qq311,qq311,H',⟨Nat.le_refl _⟩,qq307⟩
 case round =>
  clear H'
  try clear c1
  obtain ⟨x3_1,x4_1,rfl,rfl,HA,HK1,⟨m1,rfl⟩⟩:=hrel
  cases gk with
  | zero => exact absurd HA.out (by simp [spec_CountStorms.l0])
  | succ k1 =>
   have H:=HA.out;clear HA;simp only [spec_CountStorms.l0] at H
   by_cases c2 : x4_1 < (l0.length : Int)
   ·rw [if_pos c2] at H;have c2b0 : decide (x4_1 < (l0.length : Int)) = true:=decide_eq_true c2;clear c2
    by_cases c3 : 0 ≤ x4_1
    ·rw [if_pos c3] at H;have c3b0 : decide (0 ≤ x4_1) = true:=decide_eq_true c3;clear c3;obtain ⟨bq4,hbq4⟩ : ∃ b_ : Bool,b_ = (rdOf false l0 x4_1):=⟨_,rfl⟩
     replace H : (if bq4 = true then (spec_CountStorms.l0 k1 l0 (wrap64 (x3_1 + 1)) (wrap64 (x4_1 + 1))) else (spec_CountStorms.l0 k1 l0 x3_1 (wrap64 (x4_1 + 1)))) = some r:=by rw [← hbq4] at H;exact H
     have Nbq4:=am hbq4;clear hbq4
     by_cases c5 : bq4 = true
     ·subst c5;rw [if_pos rfl] at H;have H':=am H;clear H;have p464 : 0 ≤ (x4_1 : Int):=odt qq309;have q464 : x4_1 < (l0.length : Int):=odt qq309;obtain ⟨ad464,e464,hx464_0⟩:=Kd.at_bool HR0.out x4_1 p464 q464;(try rw [← Nbq4.out] at hx464_0)
      cases e464
      replace p464:=eq_true p464;replace q464:=eq_true q464;go_wp2
      go_roundg k1
      case measure => have:=HK1.out;omega
      case rel => exact ⟨(wrap64 (x3_1 + 1)),(wrap64 (x4_1 + 1)),qq311,qq311,H',⟨qq331⟩,qq307⟩
     ·replace c5:=Bool.eq_false_iff.mpr c5;subst c5;have H1 : (spec_CountStorms.l0 k1 l0 x3_1 (wrap64 (x4_1 + 1))) = some r:=by rw [if_neg (show ¬ (false = true) by decide)] at H;exact H
      clear H;have H:=H1;clear H1;have H':=am H;clear H;have p464 : 0 ≤ (x4_1 : Int):=odt qq309;have q464 : x4_1 < (l0.length : Int):=odt qq309;obtain ⟨ad464,e464,hx464_0⟩:=Kd.at_bool HR0.out x4_1 p464 q464;(try rw [← Nbq4.out] at hx464_0)
      cases e464
      replace p464:=eq_true p464;replace q464:=eq_true q464;go_wp2
      go_roundg k1
      case measure => have:=HK1.out;omega
      case rel => exact ⟨(x3_1),(wrap64 (x4_1 + 1)),qq311,qq311,H',⟨qq331⟩,qq307⟩
    ·rw [if_neg c3] at H;exact absurd H (by simp)
   ·rw [if_neg c2] at H;have c2b0 : decide (x4_1 < (l0.length : Int)) = false:=decide_eq_false c2;clear c2;obtain rfl:=Option.some.inj H;go_wp2
    go_ret
    exact ⟨qq311,qq307⟩

/-! ### spec_Max: function 144 -/
def spec_Max.f (a0 : Int) (a1 : Int) : Option (Int) := if a1 > a0 then (some a1) else (some a0)
set_option maxHeartbeats 8000000 in
set_option maxRecDepth 100000 in
theorem spec_Max.calls (a0 : Int) (a1 : Int) (r : Int) (w : World) (h : spec_Max.f a0 a1 = some r) :
  Calls Try.prog 144 #[.int .i64 a0,.int .i64 a1] w fun e w' => e = .returned (.int .i64 r) ∧ Drawn0 w w':=by
 have H : (if a1 > a0 then (some a1) else (some a0)) = some r:=h;clear h
 by_cases c3 : a1 > a0
 ·rw [if_pos c3] at H;have c3b0 : decide (a0 < a1) = true:=decide_eq_true c3;clear c3;obtain rfl:=Option.some.inj H
  go_enter Try.func144,Try.ntmps144
  go_wp2
  go_ret
  exact ⟨qq311,qq307⟩
 ·rw [if_neg c3] at H;have c3b0 : decide (a0 < a1) = false:=decide_eq_false c3;clear c3;obtain rfl:=Option.some.inj H
  go_enter Try.func144,Try.ntmps144
  go_wp2
  go_ret
  exact ⟨qq311,qq307⟩

/-! ### spec_MayStorm: function 122 -/
def spec_MayStorm.f (k : Nat) (a0_0 : Int) (a0_1 : Int) (l1 : List Bool) : Option (Bool) := (spec_IsRule.f a0_0 a0_1).bind fun t466 => (if t466 = true then ((spec_Max.f 0 (wrap64 ((wrap64 ((l1.length : Int) + 1)) - a0_1))).bind fun t467 => (if 0 ≤ t467 then (if t467 ≤ (l1.length : Int) then ((spec_CountStorms.f k (l1.drop (t467 : Int).toNat)).bind fun t469 => (some (decide (t469 < a0_0)))) else (none)) else (none))) else (some false))
def spec_MayStorm.T1 : Bool × List (List Nat × List Nat) := (true, [([], []), ([0], [0]), ([1, 1], [1]), ([2], [2]), ([2], [2]), ([4, 2], [2, 4]), ([5, 2], [2, 5]), ([2], [2]), ([7, 2], [2, 7]), ([6, 8, 2], [2, 6, 8]), ([9, 2, 2], [2, 9]), ([3, 10, 2], [2, 3, 10]), ([11, 10, 2], [2, 11]), ([2], [2]), ([13, 2], [2, 13]), ([12, 14, 2], [2, 12, 14]), ([2, 15], [2, 15]), ([16, 12, 0, 1, 2, 3, 4, 5, 6, 7, 8, 9, 10, 11, 12, 13, 14, 15, 16], [16])])
def spec_MayStorm.B1 : List Nat := [0, 1, 3, 7, 7, 23, 55, 7, 135, 503, 1015, 2047, 4095, 7, 8199, 32767, 65535, 131071]
theorem spec_MayStorm.tab1 : rtab .any (opsOf Try.f122 1) = spec_MayStorm.T1 := by kernel_rfl
theorem spec_MayStorm.bits1 : waitsOk spec_MayStorm.T1.2 spec_MayStorm.B1 = true := by kernel_rfl
set_option maxHeartbeats 8000000 in
set_option maxRecDepth 100000 in
theorem spec_MayStorm.calls (k : Nat) (a0_0 : Int) (a0_1 : Int) (A1 : Option Addr) (c1 : Nat) (l1 : List Bool) (r : Bool) (w : World) (hr1 : Kd.C Kd.bool w A1 l1.length l1) (hc1 : l1.length ≤ c1) (h : spec_MayStorm.f k a0_0 a0_1 l1 = some r) :
  Calls Try.prog 122 #[.agg #[.int .i64 a0_0,.int .i64 a0_1],.slice A1 l1.length c1] w fun e w' => e = .returned (.bool r) ∧ Below w.heap.size w w':=by
 have hu37:=Try.underlying37;have HR1:=am hr1;have HC1:=am hc1;clear hr1 hc1;have HB:=am qq465;have H : ((spec_IsRule.f a0_0 a0_1).bind fun t466 => (if t466 = true then ((spec_Max.f 0 (wrap64 ((wrap64 ((l1.length : Int) + 1)) - a0_1))).bind fun t467 => (if 0 ≤ t467 then (if t467 ≤ (l1.length : Int) then ((spec_CountStorms.f k (l1.drop (t467 : Int).toNat)).bind fun t469 => (some (decide (t469 < a0_0)))) else (none)) else (none))) else (some false))) = some r:=h;clear h;replace H:=bS.mp H;obtain ⟨t466,A30,H⟩:=H;(try dsimp only at H);have A3:=am A30;clear A30
 by_cases c4 : t466 = true
 ·subst c4;rw [if_pos rfl] at H;replace H:=bS.mp H;obtain ⟨t467,A50,H⟩:=H;(try dsimp only at H);have A5:=am A50;clear A50
  by_cases c6 : 0 ≤ t467
  ·rw [if_pos c6] at H;have c6b0:=eq_true c6;have c6b1 : decide (0 ≤ t467) = true:=decide_eq_true c6;clear c6
   by_cases c7 : t467 ≤ (l1.length : Int)
   ·rw [if_pos c7] at H;have c7b0:=eq_true c7;have c7b1 : decide (t467 ≤ (l1.length : Int)) = true:=decide_eq_true c7;clear c7;replace H:=bS.mp H;obtain ⟨t469,A80,H⟩:=H;(try dsimp only at H);have A8:=am A80;clear A80;obtain rfl:=Option.some.inj H
    go_enter Try.func122,Try.ntmps122
    try go_wp2_with (first | ((with_reducible refine gate_dst (N:=2) rfl ?_);(try (refine gate_guard (by rfl) ?_;dsimp only));refine box_event ?hg (N:=2) ?hd (cs:=#[.int .i64 a0_0,.int .i64 a0_1]) (t:=37) ?hr ?_;(case hd => rfl);(case hg => rfl);(case hr => exact qq312);intro gb465 hg w9 hbox hb;have BK465:=am (hbox);have GW465:=am qq452;have GE465:=am qq452;replace HB:=am qq488;clear hb hbox hg))
    replace BK465:=am (blk_drew BK465.out);replace HB:=am qq519;refine start_ (n:=18) (S:=fun w' => w'.cell? ⟨gb465,0,none⟩ = some (.int .i64 a0_0) ∧ w'.cell? ⟨gb465,1,none⟩ = some (.int .i64 a0_1)) (ds:=[]) #[Z,Z,Z,Z,Z,Z,Z,Z,Z,Z,Z,Z,Z,Z,Z,Z,Z,Z] (by kernel_rfl) rfl rfl ⟨(blk_cell BK465.out 0).trans rfl,(blk_cell BK465.out 1).trans rfl⟩ (fun hHeld => ?_);refine with_tabW spec_MayStorm.tab1 spec_MayStorm.bits1 (fun HT_ HW_ => ?_)
    generalize w9.drew = w10 at BK465 HB hHeld ⊢
    refine tV2 (i:=0) (N:=some 5) #[Y,Z,Z,Z,Z,Z,Z,Z,Z,Z,Z,Z,Z,Z,Z,Z,Z,Z] rfl rfl (take_ofW HT_.out HW_.out (by kernel_rfl)) hHeld ?_
    refine one_ (i:=1) (N:=some 6) #[Y,Y,Z,Z,Z,Z,Z,Z,Z,Z,Z,Z,Z,Z,Z,Z,Z,Z] rfl rfl (one_of HT_.out (by kernel_rfl)) (by decide) (fun K hK => ?_);refine goes_ Try.func139 (by kernel_rfl) rfl #[.agg #[.int .i64 a0_0,.int .i64 a0_1]] (by rfl) rfl rfl qq187 ?_;with_reducible refine (spec_IsRule.calls a0_0 a0_1 true _ A3.out).mono ?_
    rintro e w11 ⟨rfl,hb⟩
    refine ⟨_,rfl,?_⟩;replace BK465:=am qq409;replace HB:=am (below_step qq153 hb);(try clear hb);(try clear hb2);(try clear hk);(try clear hi);refine hK.out _ _ ⟨(blk_cell BK465.out 0).trans rfl,(blk_cell BK465.out 1).trans rfl⟩ (fun hHeld => ?_);clear hK K;refine norm_ (a':=?_) ?_ ?_;rotate_left
    ·show Act.put _ (some 6) _ = _
     simp only [Act.put,sA,s0,s1,i64_w,i32_w];rfl
    refine pV (i:=2) (N:=some 7) #[Y,Y,Y,Z,Z,Z,Z,Z,Z,Z,Z,Z,Z,Z,Z,Z,Z,Z] rfl rfl qT ?_
    refine pV (i:=3) (N:=some 8) #[Y,Y,Y,Y,Z,Z,Z,Z,Z,Z,Z,Z,Z,Z,Z,Z,Z,Z] rfl rfl qT ?_
    refine pV (i:=4) (N:=some 9) #[Y,Y,Y,Y,Y,Z,Z,Z,Z,Z,Z,Z,Z,Z,Z,Z,Z,Z] rfl rfl qT ?_
    refine pV (i:=5) (N:=some 10) #[Y,Y,Y,Y,Y,Y,Z,Z,Z,Z,Z,Z,Z,Z,Z,Z,Z,Z] rfl rfl qT ?_
    refine pV (i:=6) (N:=some 11) #[Y,Y,Y,Y,Y,Y,Y,Z,Z,Z,Z,Z,Z,Z,Z,Z,Z,Z] rfl rfl qT ?_
    refine pV (i:=7) (N:=some 12) #[Y,Y,Y,Y,Y,Y,Y,Y,Z,Z,Z,Z,Z,Z,Z,Z,Z,Z] rfl rfl qT ?_
    refine pV (i:=13) (N:=some 18) #[Y,Y,Y,Y,Y,Y,Y,Y,Z,Z,Z,Z,Z,Y,Z,Z,Z,Z] rfl rfl qT ?_
    refine tV2 (i:=8) (N:=some 13) #[Y,Y,Y,Y,Y,Y,Y,Y,Y,Z,Z,Z,Z,Y,Z,Z,Z,Z] rfl rfl (take_ofW HT_.out HW_.out (by kernel_rfl)) hHeld ?_
    refine pV (i:=9) (N:=some 14) #[Y,Y,Y,Y,Y,Y,Y,Y,Y,Y,Z,Z,Z,Y,Z,Z,Z,Z] rfl rfl qT ?_
    refine tV2 (i:=14) (N:=some 19) #[Y,Y,Y,Y,Y,Y,Y,Y,Y,Y,Z,Z,Z,Y,Y,Z,Z,Z] rfl rfl (take_ofW HT_.out HW_.out (by kernel_rfl)) hHeld ?_
    refine one_ (i:=10) (N:=some 15) #[Y,Y,Y,Y,Y,Y,Y,Y,Y,Y,Y,Z,Z,Y,Y,Z,Z,Z] rfl rfl (one_of HT_.out (by kernel_rfl)) (by decide) (fun K hK => ?_);refine goes_ Try.func144 (by kernel_rfl) rfl #[.int .i64 0,.int .i64 (wrap64 ((wrap64 ((l1.length : Int) + 1)) - a0_1))] (by rfl) rfl rfl qq187 ?_;with_reducible refine (spec_Max.calls 0 (wrap64 ((wrap64 ((l1.length : Int) + 1)) - a0_1)) t467 _ A5.out).mono ?_
    rintro e w' ⟨rfl,⟨nd,rfl⟩⟩
    refine ⟨_,rfl,?_⟩;obtain ⟨i012,hi012,_,hsz12,_⟩:=info_parts info4;obtain ⟨A12,hcut12,hA12,hC12⟩:=print_drop_of (P:=Try.prog) Value.bool false 25 4 .i64 Try.underlying25 hi012 hsz12 A1 c1 l1 t467 (odt qq309) (odt qq309) HC1.out;have HR468:=am (Kd.C_of_reads (h1:=fun _ => rfl) (hA12 _ (Kd.reads_of_C HR1.out)));have HC468:=am hC12;clear hA12 hC12 hi012 hsz12;refine hK.out _ _ ⟨(blk_cell BK465.out 0).trans rfl,(blk_cell BK465.out 1).trans rfl⟩ (fun hHeld => ?_);clear hK K;refine norm_ (a':=?_) ?_ ?_;rotate_left
    ·show Act.put _ (some 15) _ = _
     simp only [Act.put,sA,s0,s1,i64_w,i32_w];rfl
    refine pV (i:=11) (N:=some 16) #[Y,Y,Y,Y,Y,Y,Y,Y,Y,Y,Y,Y,Z,Y,Y,Z,Z,Z] rfl rfl qT ?_
    refine one_ (i:=12) (N:=some 17) #[Y,Y,Y,Y,Y,Y,Y,Y,Y,Y,Y,Y,Y,Y,Y,Z,Z,Z] rfl rfl (one_of HT_.out (by kernel_rfl)) (by decide) (fun K hK => ?_);refine goes_ Try.func143 (by kernel_rfl) rfl #[.slice A12 (l1.drop (t467 : Int).toNat).length (c1 - t467.toNat)] (by rfl) rfl rfl (by (try simp only [List.map_toArray,List.map_cons,List.map_nil]);first | done | (rw [show (l1.drop (t467 : Int).toNat).length = (l1.length - t467.toNat) from List.length_drop] <;> rfl) | rfl | (simp only [List.length_drop,List.length_take];rfl)) ?_;with_reducible refine (spec_CountStorms.calls k _ _ (l1.drop (t467 : Int).toNat) t469 _ ?side1 ?side2 A8.out).mono ?_
    (case side1 => repeat (first | exact (Kd.C_below HR468.out qq153) | (with_reducible refine cA ?_ _) | (with_reducible refine cN ?_ _) | (with_reducible refine cD ?_)));(case side2 => exact HC468.out)
    rintro e w' ⟨rfl,⟨nd,rfl⟩⟩
    refine ⟨_,rfl,?_⟩;refine hK.out _ _ ⟨(blk_cell BK465.out 0).trans rfl,(blk_cell BK465.out 1).trans rfl⟩ (fun hHeld => ?_);clear hK K;refine norm_ (a':=?_) ?_ ?_;rotate_left
    ·show Act.put _ (some 17) _ = _
     simp only [Act.put,sA,s0,s1,i64_w,i32_w];rfl
    refine pV (i:=15) (N:=some 20) #[Y,Y,Y,Y,Y,Y,Y,Y,Y,Y,Y,Y,Y,Y,Y,Y,Z,Z] rfl rfl qT ?_
    refine pV (i:=16) (N:=some 21) #[Y,Y,Y,Y,Y,Y,Y,Y,Y,Y,Y,Y,Y,Y,Y,Y,Y,Z] rfl rfl qT ?_
    refine pV (i:=17) (N:=some 4) #[Y,Y,Y,Y,Y,Y,Y,Y,Y,Y,Y,Y,Y,Y,Y,Y,Y,Y] rfl rfl qT ?_
    refine done_ (done_of HT_.out (by kernel_rfl)) ?_
    try go_wp2
    go_ret
    exact ⟨qq263,qq153⟩
   ·rw [if_neg c7] at H;exact absurd H (by simp)
  ·rw [if_neg c6] at H;exact absurd H (by simp)
 ·replace c4:=Bool.eq_false_iff.mpr c4;subst c4;have H1 : (some false) = some r:=by rw [if_neg (show ¬ (false = true) by decide)] at H;exact H
  clear H;have H:=H1;clear H1;obtain rfl:=Option.some.inj H
  go_enter Try.func122,Try.ntmps122
  try go_wp2_with (first | ((with_reducible refine gate_dst (N:=2) rfl ?_);(try (refine gate_guard (by rfl) ?_;dsimp only));refine box_event ?hg (N:=2) ?hd (cs:=#[.int .i64 a0_0,.int .i64 a0_1]) (t:=37) ?hr ?_;(case hd => rfl);(case hg => rfl);(case hr => exact qq312);intro gb465 hg w13 hbox hb;have BK465:=am (hbox);have GW465:=am qq452;have GE465:=am qq452;replace HB:=am qq488;clear hb hbox hg))
  replace BK465:=am (blk_drew BK465.out);replace HB:=am qq519;refine start_ (n:=18) (S:=fun w' => w'.cell? ⟨gb465,0,none⟩ = some (.int .i64 a0_0) ∧ w'.cell? ⟨gb465,1,none⟩ = some (.int .i64 a0_1)) (ds:=[]) #[Z,Z,Z,Z,Z,Z,Z,Z,Z,Z,Z,Z,Z,Z,Z,Z,Z,Z] (by kernel_rfl) rfl rfl ⟨(blk_cell BK465.out 0).trans rfl,(blk_cell BK465.out 1).trans rfl⟩ (fun hHeld => ?_);refine with_tabW spec_MayStorm.tab1 spec_MayStorm.bits1 (fun HT_ HW_ => ?_)
  generalize w13.drew = w14 at BK465 HB hHeld ⊢
  refine tV2 (i:=0) (N:=some 5) #[Y,Z,Z,Z,Z,Z,Z,Z,Z,Z,Z,Z,Z,Z,Z,Z,Z,Z] rfl rfl (take_ofW HT_.out HW_.out (by kernel_rfl)) hHeld ?_
  refine one_ (i:=1) (N:=some 6) #[Y,Y,Z,Z,Z,Z,Z,Z,Z,Z,Z,Z,Z,Z,Z,Z,Z,Z] rfl rfl (one_of HT_.out (by kernel_rfl)) (by decide) (fun K hK => ?_);refine goes_ Try.func139 (by kernel_rfl) rfl #[.agg #[.int .i64 a0_0,.int .i64 a0_1]] (by rfl) rfl rfl qq187 ?_;with_reducible refine (spec_IsRule.calls a0_0 a0_1 false _ A3.out).mono ?_
  rintro e w15 ⟨rfl,hb⟩
  refine ⟨_,rfl,?_⟩;replace BK465:=am qq409;replace HB:=am (below_step qq153 hb);(try clear hb);(try clear hb2);(try clear hk);(try clear hi);refine hK.out _ _ ⟨(blk_cell BK465.out 0).trans rfl,(blk_cell BK465.out 1).trans rfl⟩ (fun hHeld => ?_);clear hK K;refine norm_ (a':=?_) ?_ ?_;rotate_left
  ·show Act.put _ (some 6) _ = _
   simp only [Act.put,sA,s0,s1,i64_w,i32_w];rfl
  refine pV (i:=2) (N:=some 7) #[Y,Y,Y,Z,Z,Z,Z,Z,Z,Z,Z,Z,Z,Z,Z,Z,Z,Z] rfl rfl qT ?_
  refine pW (i:=3) (N:=some 8) #[Y,Y,Y,Y,Z,Z,Z,Z,Z,Z,Z,Z,Z,Z,Z,Z,Z,Z] rfl rfl qT ?_
  refine pW (i:=4) (N:=some 9) #[Y,Y,Y,Y,Y,Z,Z,Z,Z,Z,Z,Z,Z,Z,Z,Z,Z,Z] rfl rfl qT ?_
  refine pW (i:=5) (N:=some 10) #[Y,Y,Y,Y,Y,Y,Z,Z,Z,Z,Z,Z,Z,Z,Z,Z,Z,Z] rfl rfl qT ?_
  refine pW (i:=6) (N:=some 11) #[Y,Y,Y,Y,Y,Y,Y,Z,Z,Z,Z,Z,Z,Z,Z,Z,Z,Z] rfl rfl qT ?_
  refine pW (i:=7) (N:=some 12) #[Y,Y,Y,Y,Y,Y,Y,Y,Z,Z,Z,Z,Z,Z,Z,Z,Z,Z] rfl rfl qT ?_
  refine pW (i:=8) (N:=some 13) #[Y,Y,Y,Y,Y,Y,Y,Y,Y,Z,Z,Z,Z,Z,Z,Z,Z,Z] rfl rfl qT ?_
  refine pW (i:=9) (N:=some 14) #[Y,Y,Y,Y,Y,Y,Y,Y,Y,Y,Z,Z,Z,Z,Z,Z,Z,Z] rfl rfl qT ?_
  refine pW (i:=10) (N:=some 15) #[Y,Y,Y,Y,Y,Y,Y,Y,Y,Y,Y,Z,Z,Z,Z,Z,Z,Z] rfl rfl qT ?_
  refine pW (i:=11) (N:=some 16) #[Y,Y,Y,Y,Y,Y,Y,Y,Y,Y,Y,Y,Z,Z,Z,Z,Z,Z] rfl rfl qT ?_
  refine pW (i:=12) (N:=some 17) #[Y,Y,Y,Y,Y,Y,Y,Y,Y,Y,Y,Y,Y,Z,Z,Z,Z,Z] rfl rfl qT ?_
  refine pW (i:=13) (N:=some 18) #[Y,Y,Y,Y,Y,Y,Y,Y,Y,Y,Y,Y,Y,Y,Z,Z,Z,Z] rfl rfl qT ?_
  refine pW (i:=14) (N:=some 19) #[Y,Y,Y,Y,Y,Y,Y,Y,Y,Y,Y,Y,Y,Y,Y,Z,Z,Z] rfl rfl qT ?_
  refine pW (i:=15) (N:=some 20) #[Y,Y,Y,Y,Y,Y,Y,Y,Y,Y,Y,Y,Y,Y,Y,Y,Z,Z] rfl rfl qT ?_
  refine pV (i:=16) (N:=some 21) #[Y,Y,Y,Y,Y,Y,Y,Y,Y,Y,Y,Y,Y,Y,Y,Y,Y,Z] rfl rfl qT ?_
  refine pV (i:=17) (N:=some 4) #[Y,Y,Y,Y,Y,Y,Y,Y,Y,Y,Y,Y,Y,Y,Y,Y,Y,Y] rfl rfl qT ?_
  refine done_ (done_of HT_.out (by kernel_rfl)) ?_
  try go_wp2
  go_ret
  exact ⟨qq263,qq153⟩

/-! ### spec_WorstDays: function 113 -/
mutual
def spec_WorstDays.j0 : Nat → List Bool → Int → Bool → Int → Int → Option (Int)
 | 0,_,_,_,_,_ => none
 | k + 1,x1,x2,x21,x471000,x471001 => if x21 = true then (some (-1)) else ((some (([] : List Bool) : List Bool)).bind fun y473 => (if y473.length + x1.length < 140737488355328 then (spec_WorstDays.l0 k x1 x2 (y473 ++ x1) x471000 x471001) else (none)))
def spec_WorstDays.l0 : Nat → List Bool → Int → List Bool → Int → Int → Option (Int)
 | 0,_,_,_,_,_ => none
 | k + 1,x1,x2,x7,x471000,x471001 => if x2 > 0 then ((spec_MayStorm.f k x471000 x471001 x7).bind fun t479 => (if x7.length < 140737488355328 then ((some (x7 ++ [t479] : List Bool)).bind fun y480 => (if t479 = true then (spec_WorstDays.l0 k x1 x2 y480 x471000 x471001) else (spec_WorstDays.l0 k x1 (wrap64 (x2 - 1)) y480 x471000 x471001))) else (none))) else (some (wrap64 ((x7.length : Int) - (x1.length : Int))))
end
def spec_WorstDays.f (k : Nat) (a0_0 : Int) (a0_1 : Int) (l1 : List Bool) (a2 : Int) : Option (Int) := (spec_IsRule.f a0_0 a0_1).bind fun t471 => (if t471 = true then ((spec_l1In.f a2 0 200).bind fun t472 => (if t472 = true then (spec_WorstDays.j0 k l1 a2 (decide ((l1.length : Int) > 400)) a0_0 a0_1) else (spec_WorstDays.j0 k l1 a2 true a0_0 a0_1))) else (spec_WorstDays.j0 k l1 a2 true a0_0 a0_1))
set_option maxHeartbeats 8000000 in
set_option maxRecDepth 100000 in
theorem spec_WorstDays.calls (k : Nat) (a0_0 : Int) (a0_1 : Int) (A1 : Option Addr) (c1 : Nat) (l1 : List Bool) (a2 : Int) (r : Int) (w : World) (hr1 : Kd.C Kd.bool w A1 l1.length l1) (hc1 : l1.length ≤ c1) (h : spec_WorstDays.f k a0_0 a0_1 l1 a2 = some r) :
  Calls Try.prog 113 #[.agg #[.int .i64 a0_0,.int .i64 a0_1],.slice A1 l1.length c1,.int .i64 a2] w fun e w' => e = .returned (.int .i64 r) ∧ Below w.heap.size w w':=by
 have hu37:=Try.underlying37;have HR1:=am hr1;have HC1:=am hc1;clear hr1 hc1;have HB:=am qq465;have H : ((spec_IsRule.f a0_0 a0_1).bind fun t471 => (if t471 = true then ((spec_l1In.f a2 0 200).bind fun t472 => (if t472 = true then (spec_WorstDays.j0 k l1 a2 (decide ((l1.length : Int) > 400)) a0_0 a0_1) else (spec_WorstDays.j0 k l1 a2 true a0_0 a0_1))) else (spec_WorstDays.j0 k l1 a2 true a0_0 a0_1))) = some r:=h;clear h;have HC4:=am H;clear H
 go_enter Try.func113,Try.ntmps113
 go_upto_region 1 with (first | ((with_reducible refine gate_dst (N:=3) rfl ?_);(try (refine gate_guard (by rfl) ?_;dsimp only));refine box_event ?hg (N:=3) ?hd (cs:=#[.int .i64 a0_0,.int .i64 a0_1]) (t:=37) ?hr ?_;(case hd => rfl);(case hg => rfl);(case hr => exact qq312);intro gb470 hg w5 hbox hb;have BK470:=am (hbox);have GW470:=am ((qq144 : w.heap.size ≤ gb470));have GE470:=am ((qq144 : w.heap.size ≤ gb470));replace HB:=am qq488;clear hb hbox hg))
 (try simp only [Act.put,sA,s0,s1])
 go_cut [21] (fun v21 wc => ∃ (kq : Nat) (x21_3 : Bool),v21 = .bool x21_3 ∧ Aside0 (spec_WorstDays.j0 kq l1 a2 x21_3 a0_0 a0_1 = some r) ∧ Aside0 (kq ≤ k) ∧ Aside0 (wc.heap[gb470]? = some (.cells #[.int .i64 a0_0,.int .i64 a0_1] 37 (0,0))) ∧ Aside0 (Below w.heap.size w wc))
 case first =>
  have H:=HC4.out;clear HC4;replace H:=bS.mp H;obtain ⟨t471,A60,H⟩:=H;(try dsimp only at H);have A6:=am A60;clear A60
  by_cases c7 : t471 = true
  ·subst c7;rw [if_pos rfl] at H;replace H:=bS.mp H;obtain ⟨t472,A80,H⟩:=H;(try dsimp only at H);have A8:=am A80;clear A80
   by_cases c9 : t472 = true
   ·subst c9;rw [if_pos rfl] at H;have H':=am H;clear H;obtain ⟨hcz10_0,hcz10_1,hfz10_0,hfz10_1⟩:=bcl2 BK470.out;go_wp2_with (first | ((with_reducible refine gate_callee (f:=139) rfl ?_);refine goesL_ (some 10) rfl rfl Try.func139 (by kernel_rfl) rfl #[.agg #[.int .i64 a0_0,.int .i64 a0_1]] rfl qq187 ?_;(with_reducible refine (spec_IsRule.calls a0_0 a0_1 true _ A6.out).mono ?_);rintro e w11 ⟨rfl,hb⟩;refine ⟨_,rfl,?_⟩;replace BK470:=am qq410;replace HB:=am qq498;(try clear hb);(try clear hb2);(try clear hk);(try clear hi)) | (go_at_call 104;(with_reducible refine (spec_l1In.calls a2 0 200 true _ A8.out).mono ?_);rintro e w' ⟨rfl,⟨nd,rfl⟩⟩))
    go_meet
    case rel => exact ⟨_,(decide ((l1.length : Int) > 400)),qq311,H',⟨qq313⟩,⟨qq229⟩,⟨qq152⟩⟩
   ·replace c9:=Bool.eq_false_iff.mpr c9;subst c9;have H1 : (spec_WorstDays.j0 k l1 a2 true a0_0 a0_1) = some r:=by rw [if_neg (show ¬ (false = true) by decide)] at H;exact H
    clear H;have H:=H1;clear H1;have H':=am H;clear H;obtain ⟨hcz12_0,hcz12_1,hfz12_0,hfz12_1⟩:=bcl2 BK470.out;go_wp2_with (first | ((with_reducible refine gate_callee (f:=139) rfl ?_);refine goesL_ (some 10) rfl rfl Try.func139 (by kernel_rfl) rfl #[.agg #[.int .i64 a0_0,.int .i64 a0_1]] rfl qq187 ?_;(with_reducible refine (spec_IsRule.calls a0_0 a0_1 true _ A6.out).mono ?_);rintro e w13 ⟨rfl,hb⟩;refine ⟨_,rfl,?_⟩;replace BK470:=am qq410;replace HB:=am qq498;(try clear hb);(try clear hb2);(try clear hk);(try clear hi)) | (go_at_call 104;(with_reducible refine (spec_l1In.calls a2 0 200 false _ A8.out).mono ?_);rintro e w' ⟨rfl,⟨nd,rfl⟩⟩))
    go_meet
    case rel => exact ⟨_,(true),qq311,H',⟨qq313⟩,⟨qq229⟩,⟨qq152⟩⟩
  ·replace c7:=Bool.eq_false_iff.mpr c7;subst c7;have H1 : (spec_WorstDays.j0 k l1 a2 true a0_0 a0_1) = some r:=by rw [if_neg (show ¬ (false = true) by decide)] at H;exact H
   clear H;have H:=H1;clear H1;have H':=am H;clear H;obtain ⟨hcz14_0,hcz14_1,hfz14_0,hfz14_1⟩:=bcl2 BK470.out;go_wp2_with (first | ((with_reducible refine gate_callee (f:=139) rfl ?_);refine goesL_ (some 10) rfl rfl Try.func139 (by kernel_rfl) rfl #[.agg #[.int .i64 a0_0,.int .i64 a0_1]] rfl qq187 ?_;(with_reducible refine (spec_IsRule.calls a0_0 a0_1 false _ A6.out).mono ?_);rintro e w15 ⟨rfl,hb⟩;refine ⟨_,rfl,?_⟩;replace BK470:=am qq410;replace HB:=am qq498;(try clear hb);(try clear hb2);(try clear hk);(try clear hi)))
   go_meet
   case rel => exact ⟨_,(true),qq311,H',⟨qq313⟩,⟨qq229⟩,⟨qq152⟩⟩
 case rest =>
  clear HC4
  try clear c1
  try clear p2
  try clear c7
  try clear c9
  try clear c11
  try clear c13
  try clear hcz10_0
  try clear hcz10_1
  try clear hcz12_0
  try clear hcz12_1
  try clear hcz14_0
  try clear hcz14_1
  try clear hfz10_0
  try clear hfz10_1
  try clear hfz12_0
  try clear hfz12_1
  try clear hfz14_0
  try clear hfz14_1
  obtain ⟨kq,x21_3,rfl,HA,HJ3,BK470,HB⟩:=hcut
  cases kq with
  | zero => exact absurd HA.out (by simp [spec_WorstDays.j0])
  | succ kj3 =>
   have H:=HA.out;clear HA;simp only [spec_WorstDays.j0] at H
   by_cases c16 : x21_3 = true
   ·subst c16;rw [if_pos rfl] at H;obtain rfl:=Option.some.inj H;go_wp2
    go_ret
    exact ⟨qq263,qq152⟩
   ·replace c16:=Bool.eq_false_iff.mpr c16;subst c16;have H1 : ((some (([] : List Bool) : List Bool)).bind fun y473 => (if y473.length + l1.length < 140737488355328 then (spec_WorstDays.l0 kj3 l1 a2 (y473 ++ l1) a0_0 a0_1) else (none))) = some r:=by rw [if_neg (show ¬ (false = true) by decide)] at H;exact H
    clear H;have H:=H1;clear H1;obtain ⟨y473,hy473⟩ : ∃ y_ : List Bool,y_ = (([] : List Bool)):=⟨_,rfl⟩
    replace H : (if y473.length + l1.length < 140737488355328 then (spec_WorstDays.l0 kj3 l1 a2 (y473 ++ l1) a0_0 a0_1) else (none)) = some r:=by first | (rw [hy473];with_reducible exact H) | (have H2_:=(Option.bind_some _ _).symm.trans H;rw [hy473];with_reducible exact H2_) | (have H2_:=(Option.bind_some _ _).symm.trans H;with_reducible exact H2_) | with_reducible exact H | (rw [hy473];exact H) | exact H
    have Ny473:=am hy473;clear hy473
    by_cases c17 : y473.length + l1.length < 140737488355328
    ·rw [if_pos c17] at H;have LMc17:=am c17;clear c17;obtain ⟨y476,hy476⟩ : ∃ y_ : List Bool,y_ = (y473 ++ l1):=⟨_,rfl⟩
     replace H : (spec_WorstDays.l0 kj3 l1 a2 y476 a0_0 a0_1) = some r:=by first | (rw [hy476];with_reducible exact H) | (have H2_:=(Option.bind_some _ _).symm.trans H;rw [hy476];with_reducible exact H2_) | (have H2_:=(Option.bind_some _ _).symm.trans H;with_reducible exact H2_) | with_reducible exact H | (rw [hy476];exact H) | exact H
     have Ny476:=am hy476;clear hy476;have H':=am H;clear H;go_wp2_with (first | ((with_reducible refine gate_dst (N:=22) rfl ?_);(try (refine gate_guard (by rfl) ?_;dsimp only));refine Kd.R_lit Kd.bool _ 4 ?hg (N:=22) ?hd (xs:=([] : List Bool)) (inner:=[]) (ok:=fun _ => True) (okp:=fun _ => True) ?hr ?hp (fun _ hk => hk) trivial (Below.refl _ _) (Nat.le_refl _) (by simp) ?_;(case hd => rfl);(case hg => rfl);(case hr => exact qq312);(case hp => exact qq330);intro v474 w18 ho19 hb hg_ hnew_;clear hg_ hnew_;(first | rw [← Ny473.out] at ho19 | (simp only [Int.reduceToNat] at ho19;rw [← Ny473.out] at ho19));have HO475:=am (Kd.R_lower ho19 (below_size qq152));replace BK470:=am qq410;replace HB:=am qq498;clear hb ho19) | ((with_reducible refine gate_builtin (b:=.append) (xs:=#[.tmp 22,.tmp 23]) rfl ?_);(try (refine gate_guard (by rfl) ?_;dsimp only));at_builtin;refine Kd.R_append_rows Kd.bool (w0:=w) w.heap.size rfl (.tmp 22) (.tmp 23) 25 4 (.bool false) 1 rfl Try.underlying25 info4 rfl (by decide) (by omega) v474 y473 l1 _ _ _ (fun _ => True) (fun _ => False) rfl rfl ?aO ?aR (fun _ _ h => h) (fun _ h => h.elim) ?aF ?aB ?aS ?aL ?_;(case aR => repeat (first | exact (Kd.C_below HR1.out HB.out) | (with_reducible refine cA ?_ _) | (with_reducible refine cN ?_ _) | (with_reducible refine cD ?_)));(case aB => exact qq135);(case aF => exact qq328);(case aO => exact (by (with_reducible repeat (first | apply kA | apply kN | apply kD));exact HO475.out));(case aS => exact qq106);(case aL => have:=LMc17.out;omega);intro v477 w20 ho hb hg hat;rw [← Ny476.out] at ho;replace BK470:=am (blk_grown (g:=gb470) (o:=.cells #[.int .i64 a0_0,.int .i64 a0_1] 37 (0,0)) qq229 hg (Kd.R_ne HO475.out BK470.out (by decide)));replace HB:=am (hb);have HO478:=am (ho);clear HO475;clear ho hb hg hat))
     go_loopg [2,7] kj3 (fun kq v2 v7 w' => ∃ (x2_2 : Int) (x7_2 : List Bool),v2 = .int .i64 x2_2 ∧ Aside0 (spec_WorstDays.l0 kq l1 x2_2 x7_2 a0_0 a0_1 = some r) ∧ Aside0 (kq ≤ kj3) ∧ Aside0 (Kd.R Kd.bool 4 w' w.heap.size (fun _ => True) v7 x7_2) ∧ Aside0 (w'.heap[gb470]? = some (.cells #[.int .i64 a0_0,.int .i64 a0_1] 37 (0,0))) ∧ Aside0 (Below w.heap.size w w'))
     case atStart => exact ⟨(a2),(y476),qq311,H',⟨Nat.le_refl _⟩,⟨by (with_reducible repeat (first | apply kA | apply kN | apply kD));exact HO478.out⟩,⟨qq229⟩,⟨qq152⟩⟩
     case round =>
      clear H'
      try clear c1
      try clear p2
      try clear c7
      try clear c9
      try clear c11
      try clear c13
      try clear c16
      try clear c17
      try clear hcz10_0
      try clear hcz10_1
      try clear hcz12_0
      try clear hcz12_1
      try clear hcz14_0
      try clear hcz14_1
      try clear hfz10_0
      try clear hfz10_1
      try clear hfz12_0
      try clear hfz12_1
      try clear hfz14_0
      try clear hfz14_1
      try clear p2
      obtain ⟨x2_2,x7_2,rfl,HA,HK2,HO_7,BK470,HB⟩:=hrel
      cases gk with
      | zero => exact absurd HA.out (by simp [spec_WorstDays.l0])
      | succ k2 =>
       have H:=HA.out;clear HA;simp only [spec_WorstDays.l0] at H
       by_cases c21 : x2_2 > 0
       ·rw [if_pos c21] at H;have c21b0 : decide (0 < x2_2) = true:=decide_eq_true c21;clear c21;replace H:=bS.mp H;obtain ⟨t479,A220,H⟩:=H;(try dsimp only at H);have A22:=am A220;clear A220
        by_cases c23 : x7_2.length < 140737488355328
        ·rw [if_pos c23] at H;have LMc23:=am c23;clear c23;obtain ⟨y480,hy480⟩ : ∃ y_ : List Bool,y_ = (x7_2 ++ [t479]):=⟨_,rfl⟩
         replace H : (if t479 = true then (spec_WorstDays.l0 k2 l1 x2_2 y480 a0_0 a0_1) else (spec_WorstDays.l0 k2 l1 (wrap64 (x2_2 - 1)) y480 a0_0 a0_1)) = some r:=by first | (rw [hy480];with_reducible exact H) | (have H2_:=(Option.bind_some _ _).symm.trans H;rw [hy480];with_reducible exact H2_) | (have H2_:=(Option.bind_some _ _).symm.trans H;with_reducible exact H2_) | with_reducible exact H | (rw [hy480];exact H) | exact H
         have Ny480:=am hy480;clear hy480
         by_cases c24 : t479 = true
         ·subst c24;rw [if_pos rfl] at H;have H':=am H;clear H;obtain ⟨hcz25_0,hcz25_1,hfz25_0,hfz25_1⟩:=bcl2 BK470.out;obtain ⟨Ao26,co26,eo26⟩:=Kd.R_slice HO_7.out;subst eo26;go_wp2_with (first | ((with_reducible refine gate_callee (f:=122) rfl ?_);refine goesL_ (some 29) rfl rfl Try.func122 (by kernel_rfl) rfl #[.agg #[.int .i64 a0_0,.int .i64 a0_1],.slice Ao26 x7_2.length co26] rfl qq187 ?_;(with_reducible refine (spec_MayStorm.calls k2 a0_0 a0_1 _ _ x7_2 true _ ?side1 ?side2 A22.out).mono ?_);(case side1 => exact qq134);(case side2 => exact (Kd.R_reads' HO_7.out).2.1);rintro e w27 ⟨rfl,hb⟩;refine ⟨_,rfl,?_⟩;replace HO_7:=am (Kd.R_below qq302 hb);replace BK470:=am qq410;replace HB:=am qq498;(try clear hb);(try clear hb2);(try clear hk);(try clear hi)) | ((with_reducible refine gate_builtin (b:=.append) (xs:=#[.tmp 30,.tmp 32]) rfl ?_);(try (refine gate_guard (by rfl) ?_;dsimp only));at_builtin;refine Kd.R_append Kd.bool (w0:=w) w.heap.size rfl (.tmp 30) (.tmp 32) 25 4 (.bool false) 1 rfl Try.underlying25 info4 rfl (by decide) (by omega) (.slice Ao26 x7_2.length co26) x7_2 true [.bool true] (fun _ => True) (fun _ => False) rfl rfl ?aP (fun _ hk => hk.elim) ?aF ?aO ?aB ?aS ?aL ?_;(case aP => exact rfl);(case aB => exact qq135);(case aF => exact qq328);(case aO => exact qq268);(case aS => exact qq106);(case aL => have:=LMc23.out;omega);intro v481 w28 ho hb hg hat;rw [← Ny480.out] at ho;replace BK470:=am qq359;replace HB:=am (hb);have HO482:=am (ho);clear HO_7;clear ho hb hg hat))
          go_roundg k2
          case measure => have:=HJ3.out;have:=HK2.out;omega
          case rel => exact ⟨(x2_2),(y480),qq311,H',⟨qq315⟩,⟨qq285⟩,⟨qq229⟩,⟨qq152⟩⟩
         ·replace c24:=Bool.eq_false_iff.mpr c24;subst c24;have H1 : (spec_WorstDays.l0 k2 l1 (wrap64 (x2_2 - 1)) y480 a0_0 a0_1) = some r:=by rw [if_neg (show ¬ (false = true) by decide)] at H;exact H
          clear H;have H:=H1;clear H1;have H':=am H;clear H;obtain ⟨hcz29_0,hcz29_1,hfz29_0,hfz29_1⟩:=bcl2 BK470.out;obtain ⟨Ao30,co30,eo30⟩:=Kd.R_slice HO_7.out;subst eo30;go_wp2_with (first | ((with_reducible refine gate_callee (f:=122) rfl ?_);refine goesL_ (some 29) rfl rfl Try.func122 (by kernel_rfl) rfl #[.agg #[.int .i64 a0_0,.int .i64 a0_1],.slice Ao30 x7_2.length co30] rfl qq187 ?_;(with_reducible refine (spec_MayStorm.calls k2 a0_0 a0_1 _ _ x7_2 false _ ?side1 ?side2 A22.out).mono ?_);(case side1 => exact qq134);(case side2 => exact (Kd.R_reads' HO_7.out).2.1);rintro e w31 ⟨rfl,hb⟩;refine ⟨_,rfl,?_⟩;replace HO_7:=am (Kd.R_below qq302 hb);replace BK470:=am qq410;replace HB:=am qq498;(try clear hb);(try clear hb2);(try clear hk);(try clear hi)) | ((with_reducible refine gate_builtin (b:=.append) (xs:=#[.tmp 30,.tmp 32]) rfl ?_);(try (refine gate_guard (by rfl) ?_;dsimp only));at_builtin;refine Kd.R_append Kd.bool (w0:=w) w.heap.size rfl (.tmp 30) (.tmp 32) 25 4 (.bool false) 1 rfl Try.underlying25 info4 rfl (by decide) (by omega) (.slice Ao30 x7_2.length co30) x7_2 false [.bool false] (fun _ => True) (fun _ => False) rfl rfl ?aP (fun _ hk => hk.elim) ?aF ?aO ?aB ?aS ?aL ?_;(case aP => exact rfl);(case aB => exact qq135);(case aF => exact qq328);(case aO => exact qq268);(case aS => exact qq106);(case aL => have:=LMc23.out;omega);intro v481 w32 ho hb hg hat;rw [← Ny480.out] at ho;replace BK470:=am qq359;replace HB:=am (hb);have HO482:=am (ho);clear HO_7;clear ho hb hg hat))
          go_roundg k2
          case measure => have:=HJ3.out;have:=HK2.out;omega
          case rel => exact ⟨(wrap64 (x2_2 - 1)),(y480),qq311,H',⟨qq315⟩,⟨qq285⟩,⟨qq229⟩,⟨qq152⟩⟩
        ·rw [if_neg c23] at H;exact absurd H (by simp)
       ·rw [if_neg c21] at H;have c21b0 : decide (0 < x2_2) = false:=decide_eq_false c21;clear c21;obtain rfl:=Option.some.inj H;obtain ⟨Ao33,co33,eo33⟩:=Kd.R_slice HO_7.out;subst eo33;go_wp2
        go_ret
        exact ⟨qq263,qq152⟩
    ·rw [if_neg c17] at H;exact absurd H (by simp)

end Go.Proofs.Ytcbkknpmeknppaa.PFnExactPlanFood
