/- Contracts of functions that the law FnExactPlanFood reaches, for its row: lines that the kit's printer wrote for this claim, set shorter by a program of this session (own.py), and what fell in Lean proved anew. Lean checks them. -/
import Derived.Test.YtcbkknpmeknppaaSFnExactPlanFoodx0
import Derived.Test.YtcbkknpmeknppaaSFnExactPlanFoodx8
namespace Go.Proofs.Ytcbkknpmeknppaa.PFnExactPlanFood
open Go.RowKit Go.Proofs.YtcbkknpmeknppaaW.PrintWords Go.Proofs.YtcbkknpmeknppaaW.PrintLast Go.Proofs.YtcbkknpmeknppaaW.PrintMore
attribute [local go_sem] max2_int min2_int max_two min_two max_three min_three max_four min_four   -- for this text's walks alone
set_option linter.unusedVariables false
set_option linter.unusedSimpArgs false

/-! ### laws_toLegS: function 57 -/
def laws_toLegS.l0 : Nat → List (S130) → List (S76) → Int → Option ((List (S76)))
 | 0,_,_,_ => none
 | k + 1,x0,x3,x4 => if x4 < (x0.length : Int) then (if 0 ≤ x4 then ((laws_toLeg.f ((rd_T130 x0 x4).f0) ((rd_T130 x0 x4).f1)).bind fun bt311 => (if x4 < (x3.length : Int) then (laws_toLegS.l0 k x0 (x3.set (x4 : Int).toNat (⟨bt311.1,bt311.2⟩ : S76)) (wrap64 (x4 + 1))) else (none))) else (none)) else (some x3)
def laws_toLegS.f (k : Nat) (l0 : List (S130)) : Option ((List (S76))) := if 0 ≤ (l0.length : Int) then (if ((l0.length : Int) : Int).toNat ≤ 17592186044416 then (laws_toLegS.l0 k l0 (List.replicate ((l0.length : Int) : Int).toNat z76) 0) else (none)) else (none)
set_option maxHeartbeats 8000000 in
set_option maxRecDepth 100000 in
theorem laws_toLegS.calls (k : Nat) (A0 : Option Addr) (c0 : Nat) (l0 : List (S130)) (r : List (S76)) (w : World) (hr0 : Kd.C k130 w A0 l0.length l0) (hc0 : l0.length ≤ c0) (h : laws_toLegS.f k l0 = some r) :
  Calls Try.prog 57 #[.slice A0 l0.length c0] w fun e w' => ∃ v0_ : Value,e = .returned (v0_) ∧ Kd.R k76 76 w' w.heap.size (fun _ => True) v0_ r ∧ Below w.heap.size w w':=by
 have hu130:=Try.underlying130;have hu76:=Try.underlying76;have HR0:=am hr0;have HC0:=am hc0;clear hr0 hc0;have HB:=am qq465;have H : (if 0 ≤ (l0.length : Int) then (if ((l0.length : Int) : Int).toNat ≤ 17592186044416 then (laws_toLegS.l0 k l0 (List.replicate ((l0.length : Int) : Int).toNat z76) 0) else (none)) else (none)) = some r:=h;clear h
 by_cases c2 : 0 ≤ (l0.length : Int)
 ·rw [if_pos c2] at H;have c2b0:=eq_true c2;have c2b1 : decide (0 ≤ (l0.length : Int)) = true:=decide_eq_true c2;clear c2
  by_cases c3 : ((l0.length : Int) : Int).toNat ≤ 17592186044416
  ·rw [if_pos c3] at H;have c3b0:=eq_true c3;have c3b1 : decide (((l0.length : Int) : Int).toNat ≤ 17592186044416) = true:=decide_eq_true c3;clear c3;obtain ⟨y307,hy307⟩ : ∃ y_ : List (S76),y_ = (List.replicate ((l0.length : Int) : Int).toNat z76):=⟨_,rfl⟩
   replace H : (laws_toLegS.l0 k l0 y307 0) = some r:=by first | (rw [hy307];with_reducible exact H) | (have H2_:=(Option.bind_some _ _).symm.trans H;rw [hy307];with_reducible exact H2_) | (have H2_:=(Option.bind_some _ _).symm.trans H;with_reducible exact H2_) | with_reducible exact H | (rw [hy307];exact H) | exact H
   have Ny307:=am hy307;clear hy307;have H':=am H;clear H
   go_enter Try.func57,Try.ntmps57
   go_wp2_with (first | ((with_reducible refine gate_dst (N:=7) rfl ?_);refine Kd.R_make k76 _ 76 rfl (N:=7) rfl 68 _ _ rfl (l0.length : Int) rfl rfl Try.underlying68 (.agg #[(.int .i64 0),(.int .i64 0)]) 16 info76 rfl (by decide) (by omega) z76 (ok:=fun _ => True) (okp:=fun _ => True) (k76_mkM _ _ _ z76 ) (fun _ hk => hk) trivial (odt qq309) (Nat.le_trans (Nat.mul_le_mul_right _ (odt qq309 : (l0.length : Int).toNat ≤ 17592186044416)) (by omega)) (Below.refl _ _) (Nat.le_refl _) ?_;intro v308 w4 ho5 hb hg_ hnew_;clear hg_ hnew_;(first | rw [← Ny307.out] at ho5 | (simp only [Int.reduceToNat] at ho5;rw [← Ny307.out] at ho5));have HO309:=am qq429;replace HB:=am qq488;clear hb ho5))
   go_loopg [4] k (fun kq v4 w' => ∃ (x3_1 : List (S76)) (x4_1 : Int),v4 = .int .i64 x4_1 ∧ Aside0 (laws_toLegS.l0 kq l0 x3_1 x4_1 = some r) ∧ Aside0 (kq ≤ k) ∧ Aside0 (Kd.R k76 76 w' w.heap.size (fun _ => True) v308 x3_1) ∧ Aside0 (Below w.heap.size w w'))
   case atStart => exact ⟨(y307),(0),qq311,H',⟨Nat.le_refl _⟩,⟨by (with_reducible repeat (first | apply kA | apply kN | apply kD));exact HO309.out⟩,⟨qq208⟩⟩
   case round =>
    clear H'
    try clear c2
    try clear c2b0
    try clear c2b1
    try clear p2
    try clear c3
    try clear c3b0
    try clear c3b1
    try clear c5
    obtain ⟨x3_1,x4_1,rfl,HA,HK1,HO_3,HB⟩:=hrel
    cases gk with
    | zero => exact absurd HA.out (by simp [laws_toLegS.l0])
    | succ k1 =>
     have H:=HA.out;clear HA;simp only [laws_toLegS.l0] at H
     by_cases c6 : x4_1 < (l0.length : Int)
     ·rw [if_pos c6] at H;have c6b0 : decide (x4_1 < (l0.length : Int)) = true:=decide_eq_true c6;clear c6
      by_cases c7 : 0 ≤ x4_1
      ·rw [if_pos c7] at H;have c7b0 : decide (0 ≤ x4_1) = true:=decide_eq_true c7;clear c7;replace H:=bS.mp H;obtain ⟨⟨t311,t312⟩,A80,H⟩:=H;(try dsimp only at H);have A8:=am A80;clear A80
       by_cases c9 : x4_1 < (x3_1.length : Int)
       ·rw [if_pos c9] at H;have c9b0 : decide (x4_1 < (x3_1.length : Int)) = true:=decide_eq_true c9;clear c9;obtain ⟨y313,hy313⟩ : ∃ y_ : List (S76),y_ = (x3_1.set (x4_1 : Int).toNat (⟨t311,t312⟩ : S76)):=⟨_,rfl⟩
        replace H : (laws_toLegS.l0 k1 l0 y313 (wrap64 (x4_1 + 1))) = some r:=by first | (rw [hy313];with_reducible exact H) | (have H2_:=(Option.bind_some _ _).symm.trans H;rw [hy313];with_reducible exact H2_) | (have H2_:=(Option.bind_some _ _).symm.trans H;with_reducible exact H2_) | with_reducible exact H | (rw [hy313];exact H) | exact H
        have Ny313:=am hy313;clear hy313;have H':=am H;clear H;have p310 : 0 ≤ (x4_1 : Int):=odt qq309;have q310 : x4_1 < (l0.length : Int):=odt qq309;obtain ⟨ad310,e310,hx310_0,hx310_1⟩:=at_T130 HR0.out x4_1 p310 q310
        cases e310
        replace hx310_0:=(ct HB.out hx310_0 :)
        replace hx310_1:=(ct HB.out hx310_1 :)
        replace p310:=eq_true p310;replace q310:=eq_true q310;go_wp2_with (first | ((with_reducible refine gate_callee (f:=107) rfl ?_);refine goesL_ (some 20) rfl rfl Try.func107 (by kernel_rfl) rfl #[.agg #[.int .i64 ((rd_T130 l0 x4_1).f0),.int .i64 ((rd_T130 l0 x4_1).f1)]] rfl qq187 ?_;(with_reducible refine (laws_toLeg.calls ((rd_T130 l0 x4_1).f0) ((rd_T130 l0 x4_1).f1) t311 t312 _ A8.out).mono ?_);rintro e w11 ⟨rfl,hb⟩;refine ⟨_,rfl,?_⟩;replace HO_3:=am (Kd.R_below qq304 hb);replace HB:=am qq488;(try clear hb);(try clear hb2);(try clear hk);(try clear hi);have p10 : 0 ≤ (x4_1 : Int):=odt qq309;have q10 : (x4_1 : Int) < ((x3_1.length : Int) : Int):=odt qq309;obtain ⟨go10,co10,eo10,gb10,gl10,cl10,HG10⟩:=Kd.R_form HO_3.out (by omega);(first | cases eo10 | (injection eo10 with ea_ en_ ec_;(first | subst ea_ | (injection ea_ with ea_;subst ea_));subst ec_;clear en_));have GB10:=am gb10;have GG10:=am HG10;clear gb10 gl10 HG10;obtain ⟨ce10,hcl10,hM10,hcc10,hfr10⟩:=Kd.R_elem HO_3.out z76 (x4_1 : Int) p10 q10;obtain rfl:=k76_openM hM10;have hx10_0 : w11.cell? ⟨go10,(x4_1 : Int).toNat * 2,none⟩ = some (.int .i64 ((rd_T76 x3_1 x4_1).f0)):=hcc10 0 _ rfl;have hx10_1 : w11.cell? ⟨go10,(x4_1 : Int).toNat * 2 + 1,none⟩ = some (.int .i64 ((rd_T76 x3_1 x4_1).f1)):=hcc10 1 _ rfl;have hf10_0 : w11.frozen? ⟨go10,(x4_1 : Int).toNat * 2,none⟩ = false:=hfr10 0;have hf10_1 : w11.frozen? ⟨go10,(x4_1 : Int).toNat * 2 + 1,none⟩ = false:=hfr10 1;clear hcl10 hcc10 hfr10;(try clear hM10);replace p10:=eq_true p10;replace q10:=eq_true q10;have HX12:=am (show Kd.R k76 76 w11 w.heap.size (fun _ => True) (.slice (some ⟨go10,0,none⟩) x3_1.length co10) x3_1 from qq304);obtain ⟨ce12,hcl12,hM12,hcc12,hfr12⟩:=Kd.R_elem HX12.out z76 (x4_1 : Int) (odt qq309) qq73;obtain rfl:=k76_openM hM12;have HP12:=Kd.R_seg HX12.out (x4_1 : Int) (odt qq309) qq73 (seg:=[.int .i64 t311,.int .i64 t312]) (j:=0) hcl12 hcc12 (show 2 ≤ 2 from by decide) (x':=(⟨t311,t312⟩ : S76)) (k76_mkM _ _ _ (⟨t311,t312⟩ : S76) ) (fun _ hk => hk);have hx12_0:=hcc12 0 _ rfl;(try simp only [show (k76).sz = 2 from rfl,Nat.mul_one,Nat.add_zero] at hx12_0);have hf12_0:=hfr12 0;(try simp only [show (k76).sz = 2 from rfl,Nat.mul_one,Nat.add_zero] at hf12_0);have hx12_1:=hcc12 1 _ rfl;(try simp only [show (k76).sz = 2 from rfl,Nat.mul_one,Nat.add_zero] at hx12_1);have hf12_1:=hfr12 1;(try simp only [show (k76).sz = 2 from rfl,Nat.mul_one,Nat.add_zero] at hf12_1);clear hcl12 hcc12 hfr12 hM12) | ((with_reducible refine gate_store (t:=76) (p:=21) rfl ?_);refine store_event (t:=76) (p:=21) (v:=?vo_w13) (w1:=((w11.setCell ⟨go10,(x4_1 : Int).toNat * 2,none⟩ (.int .i64 t311)).setCell ⟨go10,(x4_1 : Int).toNat * 2 + 1,none⟩ (.int .i64 t312))) ?hg ?ho ?hn ?hr ?_;(case ho => rfl);(case hg => rfl);(case hn => rfl);(case hr => exact qq312);intro w13 hw;have hg : w11.grownBy w13 (some go10):=(by rw [hw];exact HP12.2);have hp_ : Kd.R k76 76 w13 w.heap.size (fun _ => True) (.slice (some ⟨go10,0,none⟩) x3_1.length co10) y313:=(by rw [hw,Ny313.out];exact HP12.1);clear HP12;replace HO_3:=am (hp_);replace HB:=am ((by rw [hw];exact below_set (below_set (HB.out) GB10.out) GB10.out : Below w.heap.size w w13));clear hg hw hp_))
        go_roundg k1
        case measure => have:=HK1.out;omega
        case rel => exact ⟨(y313),(wrap64 (x4_1 + 1)),qq311,H',⟨qq331⟩,⟨qq304⟩,⟨qq208⟩⟩
       ·rw [if_neg c9] at H;exact absurd H (by simp)
      ·rw [if_neg c7] at H;exact absurd H (by simp)
     ·rw [if_neg c6] at H;have c6b0 : decide (x4_1 < (l0.length : Int)) = false:=decide_eq_false c6;clear c6;obtain rfl:=Option.some.inj H;go_wp2
      go_ret
      exact ⟨_,qq263,qq304,qq208⟩
  ·rw [if_neg c3] at H;exact absurd H (by simp)
 ·rw [if_neg c2] at H;exact absurd H (by simp)

/-! ### laws_eqIntS: function 62 -/
def laws_eqIntS.l0 : Nat → List Int → List Int → Int → Option (Bool)
 | 0,_,_,_ => none
 | k + 1,x0,x1,x5 => if x5 < (x0.length : Int) then (if 0 ≤ x5 then (if x5 < (x1.length : Int) then (if (rd x0 x5) = (rd x1 x5) then (laws_eqIntS.l0 k x0 x1 (wrap64 (x5 + 1))) else (some false)) else (none)) else (none)) else (some true)
def laws_eqIntS.f (k : Nat) (l0 : List Int) (l1 : List Int) : Option (Bool) := if (l0.length : Int) = (l1.length : Int) then (laws_eqIntS.l0 k l0 l1 0) else (some false)
set_option maxHeartbeats 8000000 in
set_option maxRecDepth 100000 in
theorem laws_eqIntS.calls (k : Nat) (A0 : Option Addr) (c0 : Nat) (l0 : List Int) (A1 : Option Addr) (c1 : Nat) (l1 : List Int) (r : Bool) (w : World) (hr0 : Kd.C (Kd.int .i64) w A0 l0.length l0) (hc0 : l0.length ≤ c0) (hr1 : Kd.C (Kd.int .i64) w A1 l1.length l1) (hc1 : l1.length ≤ c1) (h : laws_eqIntS.f k l0 l1 = some r) :
  Calls Try.prog 62 #[.slice A0 l0.length c0,.slice A1 l1.length c1] w fun e w' => e = .returned (.bool r) ∧ Drawn0 w w':=by
 have HR0:=am hr0;have HC0:=am hc0;clear hr0 hc0;have HR1:=am hr1;have HC1:=am hc1;clear hr1 hc1;have H : (if (l0.length : Int) = (l1.length : Int) then (laws_eqIntS.l0 k l0 l1 0) else (some false)) = some r:=h;clear h
 by_cases c3 : (l0.length : Int) = (l1.length : Int)
 ·rw [if_pos c3] at H;have c3b0 : ((l0.length : Int) == (l1.length : Int)) = true:=beq_iff_eq.mpr c3;have c3b1 : ((l0.length : Int) != (l1.length : Int)) = false:=bne_eq_false_iff_eq.mpr c3;have c3b2 : (l0.length == l1.length) = true:=by first | simpa using c3 | (simp at c3 ⊢;omega)
  clear c3;have H':=am H;clear H
  go_enter Try.func62,Try.ntmps62
  go_wp2
  repeat (go_quiet (fail);try go_wp2)
  go_loopg [5] k (fun kq v5 w' => ∃ (x5_1 : Int),v5 = .int .i64 x5_1 ∧ Aside0 (laws_eqIntS.l0 kq l0 l1 x5_1 = some r) ∧ Aside0 (kq ≤ k) ∧ Drawn0 w w')
  case atStart => exact ⟨(0),qq311,H',⟨Nat.le_refl _⟩,qq307⟩
  case round =>
   clear H'
   try clear c1
   try clear p2
   try clear c3
   try clear c3b0
   try clear c3b1
   try clear c3b2
   obtain ⟨x5_1,rfl,HA,HK1,⟨m1,rfl⟩⟩:=hrel
   cases gk with
   | zero => exact absurd HA.out (by simp [laws_eqIntS.l0])
   | succ k1 =>
    have H:=HA.out;clear HA;simp only [laws_eqIntS.l0] at H
    by_cases c4 : x5_1 < (l0.length : Int)
    ·rw [if_pos c4] at H;have c4b0 : decide (x5_1 < (l0.length : Int)) = true:=decide_eq_true c4;clear c4
     by_cases c5 : 0 ≤ x5_1
     ·rw [if_pos c5] at H;have c5b0 : decide (0 ≤ x5_1) = true:=decide_eq_true c5;clear c5
      by_cases c6 : x5_1 < (l1.length : Int)
      ·rw [if_pos c6] at H;have c6b0 : decide (x5_1 < (l1.length : Int)) = true:=decide_eq_true c6;clear c6
       by_cases c7 : (rd l0 x5_1) = (rd l1 x5_1)
       ·rw [if_pos c7] at H;have c7b0 : ((rd l0 x5_1) == (rd l1 x5_1)) = true:=beq_iff_eq.mpr c7;have c7b1 : ((rd l0 x5_1) != (rd l1 x5_1)) = false:=bne_eq_false_iff_eq.mpr c7;clear c7;have H':=am H;clear H;have p314 : 0 ≤ (x5_1 : Int):=odt qq309;have q314 : x5_1 < (l0.length : Int):=odt qq309;obtain ⟨ad314,e314,hx314_0⟩:=Kd.at_int HR0.out x5_1 p314 q314
        cases e314
        replace p314:=eq_true p314;replace q314:=eq_true q314;have p315 : 0 ≤ (x5_1 : Int):=odt qq309;have q315 : x5_1 < (l1.length : Int):=odt qq309;obtain ⟨ad315,e315,hx315_0⟩:=Kd.at_int HR1.out x5_1 p315 q315
        cases e315
        replace p315:=eq_true p315;replace q315:=eq_true q315;go_wp2
        repeat (go_quiet (fail);try go_wp2)
        go_roundg k1
        case measure => have:=HK1.out;omega
        case rel => exact ⟨(wrap64 (x5_1 + 1)),qq311,H',⟨qq331⟩,qq307⟩
       ·rw [if_neg c7] at H;have c7b0 : ((rd l0 x5_1) == (rd l1 x5_1)) = false:=beq_eq_false_iff_ne.mpr c7;have c7b1 : ((rd l0 x5_1) != (rd l1 x5_1)) = true:=bne_iff_ne.mpr c7;obtain rfl:=Option.some.inj H;have p314 : 0 ≤ (x5_1 : Int):=odt qq309;have q314 : x5_1 < (l0.length : Int):=odt qq309;obtain ⟨ad314,e314,hx314_0⟩:=Kd.at_int HR0.out x5_1 p314 q314
        cases e314
        replace p314:=eq_true p314;replace q314:=eq_true q314;have p315 : 0 ≤ (x5_1 : Int):=odt qq309;have q315 : x5_1 < (l1.length : Int):=odt qq309;obtain ⟨ad315,e315,hx315_0⟩:=Kd.at_int HR1.out x5_1 p315 q315
        cases e315
        replace p315:=eq_true p315;replace q315:=eq_true q315;go_wp2
        repeat (go_quiet (fail);try go_wp2)
        go_ret
        exact ⟨qq311,qq307⟩
      ·rw [if_neg c6] at H;exact absurd H (by simp)
     ·rw [if_neg c5] at H;exact absurd H (by simp)
    ·rw [if_neg c4] at H;have c4b0 : decide (x5_1 < (l0.length : Int)) = false:=decide_eq_false c4;clear c4;obtain rfl:=Option.some.inj H;go_wp2
     repeat (go_quiet (fail);try go_wp2)
     go_ret
     exact ⟨qq311,qq307⟩
 ·rw [if_neg c3] at H;have c3b0 : ((l0.length : Int) == (l1.length : Int)) = false:=beq_eq_false_iff_ne.mpr c3;have c3b1 : ((l0.length : Int) != (l1.length : Int)) = true:=bne_iff_ne.mpr c3;have c3b2 : (l0.length == l1.length) = false:=by first | simpa using c3 | (simp at c3 ⊢;omega)
  obtain rfl:=Option.some.inj H
  go_enter Try.func62,Try.ntmps62
  go_wp2
  repeat (go_quiet (fail);try go_wp2)
  go_ret
  exact ⟨qq311,qq307⟩

/-! ### laws_eqLand: function 58 -/
def laws_eqLand.f (k : Nat) (a0_0 : Int) (a0_1 : Int) (l0_2 : List Int) (a1_0 : Int) (a1_1 : Int) (l1_2 : List Int) : Option (Bool) := if a0_0 = a1_0 then (if a0_1 = a1_1 then ((laws_eqIntS.f k l0_2 l1_2).bind fun t318 => (if t318 = true then (some true) else (some false))) else (some false)) else (some false)
set_option maxHeartbeats 8000000 in
set_option maxRecDepth 100000 in
theorem laws_eqLand.calls (k : Nat) (a0_0 : Int) (a0_1 : Int) (A0_2 : Option Addr) (c0_2 : Nat) (l0_2 : List Int) (a1_0 : Int) (a1_1 : Int) (A1_2 : Option Addr) (c1_2 : Nat) (l1_2 : List Int) (r : Bool) (w : World) (hr0_2 : Kd.C (Kd.int .i64) w A0_2 l0_2.length l0_2) (hc0_2 : l0_2.length ≤ c0_2) (hr1_2 : Kd.C (Kd.int .i64) w A1_2 l1_2.length l1_2) (hc1_2 : l1_2.length ≤ c1_2) (h : laws_eqLand.f k a0_0 a0_1 l0_2 a1_0 a1_1 l1_2 = some r) :
  Calls Try.prog 58 #[.agg #[.int .i64 a0_0,.int .i64 a0_1,.slice A0_2 l0_2.length c0_2],.agg #[.int .i64 a1_0,.int .i64 a1_1,.slice A1_2 l1_2.length c1_2]] w fun e w' => e = .returned (.bool r) ∧ Below w.heap.size w w':=by
 have hu51:=Try.underlying51;have HR0_2:=am hr0_2;have HC0_2:=am hc0_2;clear hr0_2 hc0_2;have HR1_2:=am hr1_2;have HC1_2:=am hc1_2;clear hr1_2 hc1_2;have HB:=am qq465;have H : (if a0_0 = a1_0 then (if a0_1 = a1_1 then ((laws_eqIntS.f k l0_2 l1_2).bind fun t318 => (if t318 = true then (some true) else (some false))) else (some false)) else (some false)) = some r:=h;clear h
 by_cases c3 : a0_0 = a1_0
 ·rw [if_pos c3] at H;have c3b0 : (a0_0 == a1_0) = true:=beq_iff_eq.mpr c3;have c3b1 : (a0_0 != a1_0) = false:=bne_eq_false_iff_eq.mpr c3;clear c3
  by_cases c4 : a0_1 = a1_1
  ·rw [if_pos c4] at H;have c4b0 : (a0_1 == a1_1) = true:=beq_iff_eq.mpr c4;have c4b1 : (a0_1 != a1_1) = false:=bne_eq_false_iff_eq.mpr c4;clear c4;replace H:=bS.mp H;obtain ⟨t318,A50,H⟩:=H;(try dsimp only at H);have A5:=am A50;clear A50
   by_cases c6 : t318 = true
   ·subst c6;rw [if_pos rfl] at H;obtain rfl:=Option.some.inj H
    go_enter Try.func58,Try.ntmps58
    go_wp2_with (first | ((with_reducible refine gate_dst (N:=2) rfl ?_);refine box_event ?hg (N:=2) ?hd (cs:=#[.int .i64 a0_0,.int .i64 a0_1,.slice A0_2 l0_2.length c0_2]) (t:=51) ?hr ?_;(case hd => rfl);(case hg => rfl);(case hr => exact qq312);intro gb316 hg w7 hbox hb;have BK316:=am (hbox);have GW316:=am qq442;have GE316:=am qq442;replace HB:=am qq488;clear hb hbox hg) | ((with_reducible refine gate_dst (N:=3) rfl ?_);refine box_event ?hg (N:=3) ?hd (cs:=#[.int .i64 a1_0,.int .i64 a1_1,.slice A1_2 l1_2.length c1_2]) (t:=51) ?hr ?_;(case hd => rfl);(case hg => rfl);(case hr => exact qq312);intro gb317 hg w8 hbox hb;have BK317:=am (hbox);have GW317:=am qq457;have GE317:=am qq457;replace HB:=am (below_step qq167 hb);have NB316_317:=am ((qq33 : gb316 ≠ gb317));have NB317_316:=am ((qq39 : gb317 ≠ gb316));replace BK316:=am qq377;clear hb hbox hg;have hnb9:=NB316_317.out;have hnc9:=NB317_316.out;obtain ⟨hcz10_0,hcz10_1,hcz10_2,hfz10_0,hfz10_1,hfz10_2⟩:=bcl3 BK316.out;obtain ⟨hcz11_0,hcz11_1,hcz11_2,hfz11_0,hfz11_1,hfz11_2⟩:=bcl3 BK317.out) | ((with_reducible refine gate_callee (f:=62) rfl ?_);refine goesL_ (some 19) rfl rfl Try.func62 (by kernel_rfl) rfl #[.slice A0_2 l0_2.length c0_2,.slice A1_2 l1_2.length c1_2] rfl qq187 ?_;(with_reducible refine (laws_eqIntS.calls k _ _ l0_2 _ _ l1_2 true _ ?side1 ?side2 ?side3 ?side4 A5.out).mono ?_);(case side1 => exact qq117);(case side2 => exact qq334);(case side3 => exact qq115);(case side4 => exact HC1_2.out);rintro e w' ⟨rfl,⟨nd,rfl⟩⟩;refine ⟨_,rfl,?_⟩))
    go_ret
    exact ⟨qq263,qq97⟩
   ·replace c6:=Bool.eq_false_iff.mpr c6;subst c6;have H1 : (some false) = some r:=by rw [if_neg (show ¬ (false = true) by decide)] at H;exact H
    clear H;have H:=H1;clear H1;obtain rfl:=Option.some.inj H
    go_enter Try.func58,Try.ntmps58
    go_wp2_with (first | ((with_reducible refine gate_dst (N:=2) rfl ?_);refine box_event ?hg (N:=2) ?hd (cs:=#[.int .i64 a0_0,.int .i64 a0_1,.slice A0_2 l0_2.length c0_2]) (t:=51) ?hr ?_;(case hd => rfl);(case hg => rfl);(case hr => exact qq312);intro gb316 hg w12 hbox hb;have BK316:=am (hbox);have GW316:=am qq442;have GE316:=am qq442;replace HB:=am qq488;clear hb hbox hg) | ((with_reducible refine gate_dst (N:=3) rfl ?_);refine box_event ?hg (N:=3) ?hd (cs:=#[.int .i64 a1_0,.int .i64 a1_1,.slice A1_2 l1_2.length c1_2]) (t:=51) ?hr ?_;(case hd => rfl);(case hg => rfl);(case hr => exact qq312);intro gb317 hg w13 hbox hb;have BK317:=am (hbox);have GW317:=am qq457;have GE317:=am qq457;replace HB:=am (below_step qq167 hb);have NB316_317:=am ((qq33 : gb316 ≠ gb317));have NB317_316:=am ((qq39 : gb317 ≠ gb316));replace BK316:=am qq377;clear hb hbox hg;have hnb14:=NB316_317.out;have hnc14:=NB317_316.out;obtain ⟨hcz15_0,hcz15_1,hcz15_2,hfz15_0,hfz15_1,hfz15_2⟩:=bcl3 BK316.out;obtain ⟨hcz16_0,hcz16_1,hcz16_2,hfz16_0,hfz16_1,hfz16_2⟩:=bcl3 BK317.out) | ((with_reducible refine gate_callee (f:=62) rfl ?_);refine goesL_ (some 19) rfl rfl Try.func62 (by kernel_rfl) rfl #[.slice A0_2 l0_2.length c0_2,.slice A1_2 l1_2.length c1_2] rfl qq187 ?_;(with_reducible refine (laws_eqIntS.calls k _ _ l0_2 _ _ l1_2 false _ ?side1 ?side2 ?side3 ?side4 A5.out).mono ?_);(case side1 => exact qq117);(case side2 => exact qq334);(case side3 => exact qq115);(case side4 => exact HC1_2.out);rintro e w' ⟨rfl,⟨nd,rfl⟩⟩;refine ⟨_,rfl,?_⟩))
    go_ret
    exact ⟨qq263,qq97⟩
  ·rw [if_neg c4] at H;have c4b0 : (a0_1 == a1_1) = false:=beq_eq_false_iff_ne.mpr c4;have c4b1 : (a0_1 != a1_1) = true:=bne_iff_ne.mpr c4;obtain rfl:=Option.some.inj H
   go_enter Try.func58,Try.ntmps58
   go_wp2_with (first | ((with_reducible refine gate_dst (N:=2) rfl ?_);refine box_event ?hg (N:=2) ?hd (cs:=#[.int .i64 a0_0,.int .i64 a0_1,.slice A0_2 l0_2.length c0_2]) (t:=51) ?hr ?_;(case hd => rfl);(case hg => rfl);(case hr => exact qq312);intro gb316 hg w17 hbox hb;have BK316:=am (hbox);have GW316:=am qq442;have GE316:=am qq442;replace HB:=am qq488;clear hb hbox hg) | ((with_reducible refine gate_dst (N:=3) rfl ?_);refine box_event ?hg (N:=3) ?hd (cs:=#[.int .i64 a1_0,.int .i64 a1_1,.slice A1_2 l1_2.length c1_2]) (t:=51) ?hr ?_;(case hd => rfl);(case hg => rfl);(case hr => exact qq312);intro gb317 hg w18 hbox hb;have BK317:=am (hbox);have GW317:=am qq457;have GE317:=am qq457;replace HB:=am (below_step qq167 hb);have NB316_317:=am ((qq33 : gb316 ≠ gb317));have NB317_316:=am ((qq39 : gb317 ≠ gb316));replace BK316:=am qq377;clear hb hbox hg;have hnb19:=NB316_317.out;have hnc19:=NB317_316.out;obtain ⟨hcz20_0,hcz20_1,hcz20_2,hfz20_0,hfz20_1,hfz20_2⟩:=bcl3 BK316.out;obtain ⟨hcz21_0,hcz21_1,hcz21_2,hfz21_0,hfz21_1,hfz21_2⟩:=bcl3 BK317.out))
   go_ret
   exact ⟨qq263,qq97⟩
 ·rw [if_neg c3] at H;have c3b0 : (a0_0 == a1_0) = false:=beq_eq_false_iff_ne.mpr c3;have c3b1 : (a0_0 != a1_0) = true:=bne_iff_ne.mpr c3;obtain rfl:=Option.some.inj H
  go_enter Try.func58,Try.ntmps58
  go_wp2_with (first | ((with_reducible refine gate_dst (N:=2) rfl ?_);refine box_event ?hg (N:=2) ?hd (cs:=#[.int .i64 a0_0,.int .i64 a0_1,.slice A0_2 l0_2.length c0_2]) (t:=51) ?hr ?_;(case hd => rfl);(case hg => rfl);(case hr => exact qq312);intro gb316 hg w22 hbox hb;have BK316:=am (hbox);have GW316:=am qq442;have GE316:=am qq442;replace HB:=am qq488;clear hb hbox hg) | ((with_reducible refine gate_dst (N:=3) rfl ?_);refine box_event ?hg (N:=3) ?hd (cs:=#[.int .i64 a1_0,.int .i64 a1_1,.slice A1_2 l1_2.length c1_2]) (t:=51) ?hr ?_;(case hd => rfl);(case hg => rfl);(case hr => exact qq312);intro gb317 hg w23 hbox hb;have BK317:=am (hbox);have GW317:=am qq457;have GE317:=am qq457;replace HB:=am (below_step qq167 hb);have NB316_317:=am ((qq33 : gb316 ≠ gb317));have NB317_316:=am ((qq39 : gb317 ≠ gb316));replace BK316:=am qq377;clear hb hbox hg;have hnb24:=NB316_317.out;have hnc24:=NB317_316.out;obtain ⟨hcz25_0,hcz25_1,hcz25_2,hfz25_0,hfz25_1,hfz25_2⟩:=bcl3 BK316.out;obtain ⟨hcz26_0,hcz26_1,hcz26_2,hfz26_0,hfz26_1,hfz26_2⟩:=bcl3 BK317.out))
  go_ret
  exact ⟨qq263,qq97⟩

/-! ### laws_eqLeg: function 108 -/
def laws_eqLeg.f (a0_0 : Int) (a0_1 : Int) (a1_0 : Int) (a1_1 : Int) : Option (Bool) := if a0_0 = a1_0 then (if a0_1 = a1_1 then (some true) else (some false)) else (some false)
set_option maxHeartbeats 8000000 in
set_option maxRecDepth 100000 in
theorem laws_eqLeg.calls (a0_0 : Int) (a0_1 : Int) (a1_0 : Int) (a1_1 : Int) (r : Bool) (w : World) (h : laws_eqLeg.f a0_0 a0_1 a1_0 a1_1 = some r) :
  Calls Try.prog 108 #[.agg #[.int .i64 a0_0,.int .i64 a0_1],.agg #[.int .i64 a1_0,.int .i64 a1_1]] w fun e w' => e = .returned (.bool r) ∧ Below w.heap.size w w':=by
 have hu76:=Try.underlying76;have HB:=am qq465;have H : (if a0_0 = a1_0 then (if a0_1 = a1_1 then (some true) else (some false)) else (some false)) = some r:=h;clear h
 by_cases c3 : a0_0 = a1_0
 ·rw [if_pos c3] at H;have c3b0 : (a0_0 == a1_0) = true:=beq_iff_eq.mpr c3;have c3b1 : (a0_0 != a1_0) = false:=bne_eq_false_iff_eq.mpr c3;clear c3
  by_cases c4 : a0_1 = a1_1
  ·rw [if_pos c4] at H;have c4b0 : (a0_1 == a1_1) = true:=beq_iff_eq.mpr c4;have c4b1 : (a0_1 != a1_1) = false:=bne_eq_false_iff_eq.mpr c4;clear c4;obtain rfl:=Option.some.inj H
   go_enter Try.func108,Try.ntmps108
   go_wp2_with (first | ((with_reducible refine gate_dst (N:=2) rfl ?_);refine box_event ?hg (N:=2) ?hd (cs:=#[.int .i64 a0_0,.int .i64 a0_1]) (t:=76) ?hr ?_;(case hd => rfl);(case hg => rfl);(case hr => exact qq312);intro gb319 hg w5 hbox hb;have BK319:=am (hbox);have GW319:=am qq443;have GE319:=am qq443;replace HB:=am qq488;clear hb hbox hg) | ((with_reducible refine gate_dst (N:=3) rfl ?_);refine box_event ?hg (N:=3) ?hd (cs:=#[.int .i64 a1_0,.int .i64 a1_1]) (t:=76) ?hr ?_;(case hd => rfl);(case hg => rfl);(case hr => exact qq312);intro gb320 hg w6 hbox hb;have BK320:=am (hbox);have GW320:=am qq458;have GE320:=am qq458;replace HB:=am (below_step qq166 hb);have NB319_320:=am ((qq54 : gb319 ≠ gb320));have NB320_319:=am ((qq57 : gb320 ≠ gb319));replace BK319:=am qq408;clear hb hbox hg;have hnb7:=NB319_320.out;have hnc7:=NB320_319.out;obtain ⟨hcz8_0,hcz8_1,hfz8_0,hfz8_1⟩:=bcl2 BK319.out;obtain ⟨hcz9_0,hcz9_1,hfz9_0,hfz9_1⟩:=bcl2 BK320.out))
   go_ret
   exact ⟨qq263,qq96⟩
  ·rw [if_neg c4] at H;have c4b0 : (a0_1 == a1_1) = false:=beq_eq_false_iff_ne.mpr c4;have c4b1 : (a0_1 != a1_1) = true:=bne_iff_ne.mpr c4;obtain rfl:=Option.some.inj H
   go_enter Try.func108,Try.ntmps108
   go_wp2_with (first | ((with_reducible refine gate_dst (N:=2) rfl ?_);refine box_event ?hg (N:=2) ?hd (cs:=#[.int .i64 a0_0,.int .i64 a0_1]) (t:=76) ?hr ?_;(case hd => rfl);(case hg => rfl);(case hr => exact qq312);intro gb319 hg w10 hbox hb;have BK319:=am (hbox);have GW319:=am qq443;have GE319:=am qq443;replace HB:=am qq488;clear hb hbox hg) | ((with_reducible refine gate_dst (N:=3) rfl ?_);refine box_event ?hg (N:=3) ?hd (cs:=#[.int .i64 a1_0,.int .i64 a1_1]) (t:=76) ?hr ?_;(case hd => rfl);(case hg => rfl);(case hr => exact qq312);intro gb320 hg w11 hbox hb;have BK320:=am (hbox);have GW320:=am qq458;have GE320:=am qq458;replace HB:=am (below_step qq166 hb);have NB319_320:=am ((qq54 : gb319 ≠ gb320));have NB320_319:=am ((qq57 : gb320 ≠ gb319));replace BK319:=am qq408;clear hb hbox hg;have hnb12:=NB319_320.out;have hnc12:=NB320_319.out;obtain ⟨hcz13_0,hcz13_1,hfz13_0,hfz13_1⟩:=bcl2 BK319.out;obtain ⟨hcz14_0,hcz14_1,hfz14_0,hfz14_1⟩:=bcl2 BK320.out))
   go_ret
   exact ⟨qq263,qq96⟩
 ·rw [if_neg c3] at H;have c3b0 : (a0_0 == a1_0) = false:=beq_eq_false_iff_ne.mpr c3;have c3b1 : (a0_0 != a1_0) = true:=bne_iff_ne.mpr c3;obtain rfl:=Option.some.inj H
  go_enter Try.func108,Try.ntmps108
  go_wp2_with (first | ((with_reducible refine gate_dst (N:=2) rfl ?_);refine box_event ?hg (N:=2) ?hd (cs:=#[.int .i64 a0_0,.int .i64 a0_1]) (t:=76) ?hr ?_;(case hd => rfl);(case hg => rfl);(case hr => exact qq312);intro gb319 hg w15 hbox hb;have BK319:=am (hbox);have GW319:=am qq443;have GE319:=am qq443;replace HB:=am qq488;clear hb hbox hg) | ((with_reducible refine gate_dst (N:=3) rfl ?_);refine box_event ?hg (N:=3) ?hd (cs:=#[.int .i64 a1_0,.int .i64 a1_1]) (t:=76) ?hr ?_;(case hd => rfl);(case hg => rfl);(case hr => exact qq312);intro gb320 hg w16 hbox hb;have BK320:=am (hbox);have GW320:=am qq458;have GE320:=am qq458;replace HB:=am (below_step qq166 hb);have NB319_320:=am ((qq54 : gb319 ≠ gb320));have NB320_319:=am ((qq57 : gb320 ≠ gb319));replace BK319:=am qq408;clear hb hbox hg;have hnb17:=NB319_320.out;have hnc17:=NB320_319.out;obtain ⟨hcz18_0,hcz18_1,hfz18_0,hfz18_1⟩:=bcl2 BK319.out;obtain ⟨hcz19_0,hcz19_1,hfz19_0,hfz19_1⟩:=bcl2 BK320.out))
  go_ret
  exact ⟨qq263,qq96⟩

/-! ### laws_eqLegS: function 59 -/
def laws_eqLegS.l0 : Nat → List (S76) → List (S76) → Int → Option (Bool)
 | 0,_,_,_ => none
 | k + 1,x0,x1,x5 => if x5 < (x0.length : Int) then (if 0 ≤ x5 then (if x5 < (x1.length : Int) then ((laws_eqLeg.f ((rd_T76 x0 x5).f0) ((rd_T76 x0 x5).f1) ((rd_T76 x1 x5).f0) ((rd_T76 x1 x5).f1)).bind fun t323 => (if t323 = true then (laws_eqLegS.l0 k x0 x1 (wrap64 (x5 + 1))) else (some false))) else (none)) else (none)) else (some true)
def laws_eqLegS.f (k : Nat) (l0 : List (S76)) (l1 : List (S76)) : Option (Bool) := if (l0.length : Int) = (l1.length : Int) then (laws_eqLegS.l0 k l0 l1 0) else (some false)
def laws_eqLegS.T6 : Bool × List (List Nat × List Nat) := (true, [([], []), ([], []), ([0, 1], [0, 1]), ([2], [2]), ([], []), ([], []), ([4, 5], [4, 5]), ([6], [6]), ([3, 7], [3, 7]), ([8], [8])])
def laws_eqLegS.B6 : List Nat := [0, 0, 3, 7, 0, 0, 48, 112, 255, 511]
theorem laws_eqLegS.tab6 : rtab .any (opsOf Try.f59 6) = laws_eqLegS.T6 := by kernel_rfl
theorem laws_eqLegS.bits6 : waitsOk laws_eqLegS.T6.2 laws_eqLegS.B6 = true := by kernel_rfl
set_option maxHeartbeats 8000000 in
set_option maxRecDepth 100000 in
theorem laws_eqLegS.calls (k : Nat) (A0 : Option Addr) (c0 : Nat) (l0 : List (S76)) (A1 : Option Addr) (c1 : Nat) (l1 : List (S76)) (r : Bool) (w : World) (hr0 : Kd.C k76 w A0 l0.length l0) (hc0 : l0.length ≤ c0) (hr1 : Kd.C k76 w A1 l1.length l1) (hc1 : l1.length ≤ c1) (h : laws_eqLegS.f k l0 l1 = some r) :
  Calls Try.prog 59 #[.slice A0 l0.length c0,.slice A1 l1.length c1] w fun e w' => e = .returned (.bool r) ∧ Below w.heap.size w w':=by
 have hu76:=Try.underlying76;have HR0:=am hr0;have HC0:=am hc0;clear hr0 hc0;have HR1:=am hr1;have HC1:=am hc1;clear hr1 hc1;have HB:=am qq465;have H : (if (l0.length : Int) = (l1.length : Int) then (laws_eqLegS.l0 k l0 l1 0) else (some false)) = some r:=h;clear h
 by_cases c3 : (l0.length : Int) = (l1.length : Int)
 ·rw [if_pos c3] at H;have c3b0 : ((l0.length : Int) == (l1.length : Int)) = true:=beq_iff_eq.mpr c3;have c3b1 : ((l0.length : Int) != (l1.length : Int)) = false:=bne_eq_false_iff_eq.mpr c3;have c3b2 : (l0.length == l1.length) = true:=by first | simpa using c3 | (simp at c3 ⊢;omega)
  clear c3;have H':=am H;clear H
  go_enter Try.func59,Try.ntmps59
  go_wp2
  go_loopg [5] k (fun kq v5 w' => ∃ (x5_1 : Int),v5 = .int .i64 x5_1 ∧ Aside0 (laws_eqLegS.l0 kq l0 l1 x5_1 = some r) ∧ Aside0 (kq ≤ k) ∧ Aside0 (Below w.heap.size w w'))
  case atStart => exact ⟨(0),qq311,H',⟨Nat.le_refl _⟩,⟨qq208⟩⟩
  case round =>
   clear H'
   try clear c1
   try clear p2
   try clear c3
   try clear c3b0
   try clear c3b1
   try clear c3b2
   obtain ⟨x5_1,rfl,HA,HK1,HB⟩:=hrel
   cases gk with
   | zero => exact absurd HA.out (by simp [laws_eqLegS.l0])
   | succ k1 =>
    have H:=HA.out;clear HA;simp only [laws_eqLegS.l0] at H
    by_cases c4 : x5_1 < (l0.length : Int)
    ·rw [if_pos c4] at H;have c4b0 : decide (x5_1 < (l0.length : Int)) = true:=decide_eq_true c4;clear c4
     by_cases c5 : 0 ≤ x5_1
     ·rw [if_pos c5] at H;have c5b0 : decide (0 ≤ x5_1) = true:=decide_eq_true c5;clear c5
      by_cases c6 : x5_1 < (l1.length : Int)
      ·rw [if_pos c6] at H;have c6b0 : decide (x5_1 < (l1.length : Int)) = true:=decide_eq_true c6;clear c6;replace H:=bS.mp H;obtain ⟨t323,A70,H⟩:=H;(try dsimp only at H);have A7:=am A70;clear A70
       by_cases c8 : t323 = true
       ·subst c8;rw [if_pos rfl] at H;have H':=am H;clear H
        try go_wp2
        replace HB:=am qq519;have p321 : 0 ≤ (x5_1 : Int):=odt qq309;have q321 : x5_1 < (l0.length : Int):=odt qq309;obtain ⟨ad321,e321,hx321_0,hx321_1⟩:=at_T76 HR0.out x5_1 p321 q321;have hw321_1:=hx321_1;have hw321_0:=hx321_0
        cases e321
        replace hx321_0:=(ct HB.out hx321_0 :)
        replace hx321_1:=(ct HB.out hx321_1 :)
        replace p321:=eq_true p321;replace q321:=eq_true q321;have p322 : 0 ≤ (x5_1 : Int):=odt qq309;have q322 : x5_1 < (l1.length : Int):=odt qq309;obtain ⟨ad322,e322,hx322_0,hx322_1⟩:=at_T76 HR1.out x5_1 p322 q322;have hw322_1:=hx322_1;have hw322_0:=hx322_0
        cases e322
        replace hx322_0:=(ct HB.out hx322_0 :)
        replace hx322_1:=(ct HB.out hx322_1 :)
        replace p322:=eq_true p322;replace q322:=eq_true q322;refine start_ (n:=10) (S:=fun w' => w'.cell? (ad321.add ((x5_1).toNat * 2)) = some (.int .i64 ((rd_T76 l0 x5_1).f0)) ∧ w'.cell? ⟨(ad321.add ((x5_1).toNat * 2)).block,(ad321.add ((x5_1).toNat * 2)).off + 1,none⟩ = some (.int .i64 ((rd_T76 l0 x5_1).f1)) ∧ w'.cell? (ad322.add ((x5_1).toNat * 2)) = some (.int .i64 ((rd_T76 l1 x5_1).f0)) ∧ w'.cell? ⟨(ad322.add ((x5_1).toNat * 2)).block,(ad322.add ((x5_1).toNat * 2)).off + 1,none⟩ = some (.int .i64 ((rd_T76 l1 x5_1).f1))) (ds:=[]) #[Z,Z,Z,Z,Z,Z,Z,Z,Z,Z] (by kernel_rfl) rfl rfl ⟨(ct HB.out hw321_0 :),(ct HB.out hw321_1 :),(ct HB.out hw322_0 :),(ct HB.out hw322_1 :)⟩ (fun hHeld => ?_);refine with_tabW laws_eqLegS.tab6 laws_eqLegS.bits6 (fun HT_ HW_ => ?_)
        generalize wr.drew = w9 at HB hx321_0 hx321_1 hx322_0 hx322_1 hHeld ⊢
        refine pV (i:=0) (N:=some 17) #[Y,Z,Z,Z,Z,Z,Z,Z,Z,Z] rfl rfl qT ?_
        refine pV (i:=1) (N:=some 18) #[Y,Y,Z,Z,Z,Z,Z,Z,Z,Z] rfl rfl qT ?_
        refine pV (i:=2) (N:=some 19) #[Y,Y,Y,Z,Z,Z,Z,Z,Z,Z] rfl rfl qT ?_
        refine pV (i:=4) (N:=some 21) #[Y,Y,Y,Z,Y,Z,Z,Z,Z,Z] rfl rfl qT ?_
        refine pV (i:=5) (N:=some 22) #[Y,Y,Y,Z,Y,Y,Z,Z,Z,Z] rfl rfl qT ?_
        refine pV (i:=6) (N:=some 23) #[Y,Y,Y,Z,Y,Y,Y,Z,Z,Z] rfl rfl qT ?_
        refine tV4 (i:=3) (N:=some 20) #[Y,Y,Y,Y,Y,Y,Y,Z,Z,Z] rfl rfl (take_ofW HT_.out HW_.out (by kernel_rfl)) hHeld ?_
        refine tV4 (i:=7) (N:=some 24) #[Y,Y,Y,Y,Y,Y,Y,Y,Z,Z] rfl rfl (take_ofW HT_.out HW_.out (by kernel_rfl)) hHeld ?_
        refine one_ (i:=8) (N:=some 25) #[Y,Y,Y,Y,Y,Y,Y,Y,Y,Z] rfl rfl (one_of HT_.out (by kernel_rfl)) (by decide) (fun K hK => ?_);refine goes_ Try.func108 (by kernel_rfl) rfl #[.agg #[.int .i64 ((rd_T76 l0 x5_1).f0),.int .i64 ((rd_T76 l0 x5_1).f1)],.agg #[.int .i64 ((rd_T76 l1 x5_1).f0),.int .i64 ((rd_T76 l1 x5_1).f1)]] (by rfl) rfl rfl qq187 ?_;with_reducible refine (laws_eqLeg.calls ((rd_T76 l0 x5_1).f0) ((rd_T76 l0 x5_1).f1) ((rd_T76 l1 x5_1).f0) ((rd_T76 l1 x5_1).f1) true _ A7.out).mono ?_
        rintro e w10 ⟨rfl,hb⟩
        refine ⟨_,rfl,?_⟩;replace HB:=am qq488;(try clear hb);(try clear hb2);(try clear hk);(try clear hi);refine hK.out _ _ ⟨(ct HB.out hw321_0 :),(ct HB.out hw321_1 :),(ct HB.out hw322_0 :),(ct HB.out hw322_1 :)⟩ (fun hHeld => ?_);clear hK K;refine norm_ (a':=?_) ?_ ?_;rotate_left
        ·show Act.put _ (some 25) _ = _
         simp only [Act.put,sA,s0,s1,i64_w,i32_w];rfl
        refine pV (i:=9) (N:=some 26) #[Y,Y,Y,Y,Y,Y,Y,Y,Y,Y] rfl rfl qT ?_
        refine done_ (done_of HT_.out (by kernel_rfl)) ?_
        try go_wp2
        go_roundg k1
        case measure => have:=HK1.out;omega
        case rel => exact ⟨(wrap64 (x5_1 + 1)),qq311,H',⟨qq331⟩,⟨qq208⟩⟩
       ·replace c8:=Bool.eq_false_iff.mpr c8;subst c8;have H1 : (some false) = some r:=by rw [if_neg (show ¬ (false = true) by decide)] at H;exact H
        clear H;have H:=H1;clear H1;obtain rfl:=Option.some.inj H
        try go_wp2
        replace HB:=am qq519;have p321 : 0 ≤ (x5_1 : Int):=odt qq309;have q321 : x5_1 < (l0.length : Int):=odt qq309;obtain ⟨ad321,e321,hx321_0,hx321_1⟩:=at_T76 HR0.out x5_1 p321 q321;have hw321_1:=hx321_1;have hw321_0:=hx321_0
        cases e321
        replace hx321_0:=(ct HB.out hx321_0 :)
        replace hx321_1:=(ct HB.out hx321_1 :)
        replace p321:=eq_true p321;replace q321:=eq_true q321;have p322 : 0 ≤ (x5_1 : Int):=odt qq309;have q322 : x5_1 < (l1.length : Int):=odt qq309;obtain ⟨ad322,e322,hx322_0,hx322_1⟩:=at_T76 HR1.out x5_1 p322 q322;have hw322_1:=hx322_1;have hw322_0:=hx322_0
        cases e322
        replace hx322_0:=(ct HB.out hx322_0 :)
        replace hx322_1:=(ct HB.out hx322_1 :)
        replace p322:=eq_true p322;replace q322:=eq_true q322;refine start_ (n:=10) (S:=fun w' => w'.cell? (ad321.add ((x5_1).toNat * 2)) = some (.int .i64 ((rd_T76 l0 x5_1).f0)) ∧ w'.cell? ⟨(ad321.add ((x5_1).toNat * 2)).block,(ad321.add ((x5_1).toNat * 2)).off + 1,none⟩ = some (.int .i64 ((rd_T76 l0 x5_1).f1)) ∧ w'.cell? (ad322.add ((x5_1).toNat * 2)) = some (.int .i64 ((rd_T76 l1 x5_1).f0)) ∧ w'.cell? ⟨(ad322.add ((x5_1).toNat * 2)).block,(ad322.add ((x5_1).toNat * 2)).off + 1,none⟩ = some (.int .i64 ((rd_T76 l1 x5_1).f1))) (ds:=[]) #[Z,Z,Z,Z,Z,Z,Z,Z,Z,Z] (by kernel_rfl) rfl rfl ⟨(ct HB.out hw321_0 :),(ct HB.out hw321_1 :),(ct HB.out hw322_0 :),(ct HB.out hw322_1 :)⟩ (fun hHeld => ?_);refine with_tabW laws_eqLegS.tab6 laws_eqLegS.bits6 (fun HT_ HW_ => ?_)
        generalize wr.drew = w11 at HB hx321_0 hx321_1 hx322_0 hx322_1 hHeld ⊢
        refine pV (i:=0) (N:=some 17) #[Y,Z,Z,Z,Z,Z,Z,Z,Z,Z] rfl rfl qT ?_
        refine pV (i:=1) (N:=some 18) #[Y,Y,Z,Z,Z,Z,Z,Z,Z,Z] rfl rfl qT ?_
        refine pV (i:=2) (N:=some 19) #[Y,Y,Y,Z,Z,Z,Z,Z,Z,Z] rfl rfl qT ?_
        refine pV (i:=4) (N:=some 21) #[Y,Y,Y,Z,Y,Z,Z,Z,Z,Z] rfl rfl qT ?_
        refine pV (i:=5) (N:=some 22) #[Y,Y,Y,Z,Y,Y,Z,Z,Z,Z] rfl rfl qT ?_
        refine pV (i:=6) (N:=some 23) #[Y,Y,Y,Z,Y,Y,Y,Z,Z,Z] rfl rfl qT ?_
        refine tV4 (i:=3) (N:=some 20) #[Y,Y,Y,Y,Y,Y,Y,Z,Z,Z] rfl rfl (take_ofW HT_.out HW_.out (by kernel_rfl)) hHeld ?_
        refine tV4 (i:=7) (N:=some 24) #[Y,Y,Y,Y,Y,Y,Y,Y,Z,Z] rfl rfl (take_ofW HT_.out HW_.out (by kernel_rfl)) hHeld ?_
        refine one_ (i:=8) (N:=some 25) #[Y,Y,Y,Y,Y,Y,Y,Y,Y,Z] rfl rfl (one_of HT_.out (by kernel_rfl)) (by decide) (fun K hK => ?_);refine goes_ Try.func108 (by kernel_rfl) rfl #[.agg #[.int .i64 ((rd_T76 l0 x5_1).f0),.int .i64 ((rd_T76 l0 x5_1).f1)],.agg #[.int .i64 ((rd_T76 l1 x5_1).f0),.int .i64 ((rd_T76 l1 x5_1).f1)]] (by rfl) rfl rfl qq187 ?_;with_reducible refine (laws_eqLeg.calls ((rd_T76 l0 x5_1).f0) ((rd_T76 l0 x5_1).f1) ((rd_T76 l1 x5_1).f0) ((rd_T76 l1 x5_1).f1) false _ A7.out).mono ?_
        rintro e w12 ⟨rfl,hb⟩
        refine ⟨_,rfl,?_⟩;replace HB:=am qq488;(try clear hb);(try clear hb2);(try clear hk);(try clear hi);refine hK.out _ _ ⟨(ct HB.out hw321_0 :),(ct HB.out hw321_1 :),(ct HB.out hw322_0 :),(ct HB.out hw322_1 :)⟩ (fun hHeld => ?_);clear hK K;refine norm_ (a':=?_) ?_ ?_;rotate_left
        ·show Act.put _ (some 25) _ = _
         simp only [Act.put,sA,s0,s1,i64_w,i32_w];rfl
        refine pV (i:=9) (N:=some 26) #[Y,Y,Y,Y,Y,Y,Y,Y,Y,Y] rfl rfl qT ?_
        refine done_ (done_of HT_.out (by kernel_rfl)) ?_
        try go_wp2
        go_ret
        exact ⟨qq263,qq208⟩
      ·rw [if_neg c6] at H;exact absurd H (by simp)
     ·rw [if_neg c5] at H;exact absurd H (by simp)
    ·rw [if_neg c4] at H;have c4b0 : decide (x5_1 < (l0.length : Int)) = false:=decide_eq_false c4;clear c4;obtain rfl:=Option.some.inj H;go_wp2
     go_ret
     exact ⟨qq263,qq208⟩
 ·rw [if_neg c3] at H;have c3b0 : ((l0.length : Int) == (l1.length : Int)) = false:=beq_eq_false_iff_ne.mpr c3;have c3b1 : ((l0.length : Int) != (l1.length : Int)) = true:=bne_iff_ne.mpr c3;have c3b2 : (l0.length == l1.length) = false:=by first | simpa using c3 | (simp at c3 ⊢;omega)
  obtain rfl:=Option.some.inj H
  go_enter Try.func59,Try.ntmps59
  go_wp2
  go_ret
  exact ⟨qq263,qq208⟩

/-! ### laws_szMemberS: function 110 -/
def laws_szMemberS.f (l0 : List (S152)) (a1 : Int) : Option (Int) := if (wrap64 (a1 - (l0.length : Int))) < 0 then (some (-1)) else (some (wrap64 (a1 - (l0.length : Int))))
set_option maxHeartbeats 8000000 in
set_option maxRecDepth 100000 in
theorem laws_szMemberS.calls (A0 : Option Addr) (c0 : Nat) (l0 : List (S152)) (a1 : Int) (r : Int) (w : World) (hr0 : Kd.C k152 w A0 l0.length l0) (hc0 : l0.length ≤ c0) (h : laws_szMemberS.f l0 a1 = some r) :
  Calls Try.prog 110 #[.slice A0 l0.length c0,.int .i64 a1] w fun e w' => e = .returned (.int .i64 r) ∧ Drawn0 w w':=by
 have HR0:=am hr0;have HC0:=am hc0;clear hr0 hc0;have H : (if (wrap64 (a1 - (l0.length : Int))) < 0 then (some (-1)) else (some (wrap64 (a1 - (l0.length : Int))))) = some r:=h;clear h
 by_cases c3 : (wrap64 (a1 - (l0.length : Int))) < 0
 ·rw [if_pos c3] at H;have c3b0 : decide ((wrap64 (a1 - (l0.length : Int))) < 0) = true:=decide_eq_true c3;clear c3;obtain rfl:=Option.some.inj H
  go_enter Try.func110,Try.ntmps110
  go_wp2
  go_ret
  exact ⟨qq311,qq307⟩
 ·rw [if_neg c3] at H;have c3b0 : decide ((wrap64 (a1 - (l0.length : Int))) < 0) = false:=decide_eq_false c3;clear c3;obtain rfl:=Option.some.inj H
  go_enter Try.func110,Try.ntmps110
  go_wp2
  go_ret
  exact ⟨qq311,qq307⟩

/-! ### laws_szBoolS: function 111 -/
def laws_szBoolS.f (l0 : List Bool) (a1 : Int) : Option (Int) := if (wrap64 (a1 - (l0.length : Int))) < 0 then (some (-1)) else (some (wrap64 (a1 - (l0.length : Int))))
set_option maxHeartbeats 8000000 in
set_option maxRecDepth 100000 in
theorem laws_szBoolS.calls (A0 : Option Addr) (c0 : Nat) (l0 : List Bool) (a1 : Int) (r : Int) (w : World) (hr0 : Kd.C Kd.bool w A0 l0.length l0) (hc0 : l0.length ≤ c0) (h : laws_szBoolS.f l0 a1 = some r) :
  Calls Try.prog 111 #[.slice A0 l0.length c0,.int .i64 a1] w fun e w' => e = .returned (.int .i64 r) ∧ Drawn0 w w':=by
 have HR0:=am hr0;have HC0:=am hc0;clear hr0 hc0;have H : (if (wrap64 (a1 - (l0.length : Int))) < 0 then (some (-1)) else (some (wrap64 (a1 - (l0.length : Int))))) = some r:=h;clear h
 by_cases c3 : (wrap64 (a1 - (l0.length : Int))) < 0
 ·rw [if_pos c3] at H;have c3b0 : decide ((wrap64 (a1 - (l0.length : Int))) < 0) = true:=decide_eq_true c3;clear c3;obtain rfl:=Option.some.inj H
  go_enter Try.func111,Try.ntmps111
  go_wp2
  go_ret
  exact ⟨qq311,qq307⟩
 ·rw [if_neg c3] at H;have c3b0 : decide ((wrap64 (a1 - (l0.length : Int))) < 0) = false:=decide_eq_false c3;clear c3;obtain rfl:=Option.some.inj H
  go_enter Try.func111,Try.ntmps111
  go_wp2
  go_ret
  exact ⟨qq311,qq307⟩

/-! ### laws_szParty: function 67 -/
def laws_szParty.f (a0_0 : Int) (a0_1 : Int) (l0_2 : List (S152)) (l0_3 : List Bool) (a1 : Int) : Option (Int) := (laws_szMemberS.f l0_2 a1).bind fun t325 => (if t325 < 0 then (some (-1)) else ((laws_szBoolS.f l0_3 t325).bind fun t326 => (if t326 < 0 then (some (-1)) else (some t326))))
set_option maxHeartbeats 8000000 in
set_option maxRecDepth 100000 in
theorem laws_szParty.calls (a0_0 : Int) (a0_1 : Int) (A0_2 : Option Addr) (c0_2 : Nat) (l0_2 : List (S152)) (A0_3 : Option Addr) (c0_3 : Nat) (l0_3 : List Bool) (a1 : Int) (r : Int) (w : World) (hr0_2 : Kd.C k152 w A0_2 l0_2.length l0_2) (hc0_2 : l0_2.length ≤ c0_2) (hr0_3 : Kd.C Kd.bool w A0_3 l0_3.length l0_3) (hc0_3 : l0_3.length ≤ c0_3) (h : laws_szParty.f a0_0 a0_1 l0_2 l0_3 a1 = some r) :
  Calls Try.prog 67 #[.agg #[.int .i64 a0_0,.int .i64 a0_1,.slice A0_2 l0_2.length c0_2,.slice A0_3 l0_3.length c0_3],.int .i64 a1] w fun e w' => e = .returned (.int .i64 r) ∧ Below w.heap.size w w':=by
 have hu97:=Try.underlying97;have HR0_2:=am hr0_2;have HC0_2:=am hc0_2;clear hr0_2 hc0_2;have HR0_3:=am hr0_3;have HC0_3:=am hc0_3;clear hr0_3 hc0_3;have HB:=am qq465;have H : ((laws_szMemberS.f l0_2 a1).bind fun t325 => (if t325 < 0 then (some (-1)) else ((laws_szBoolS.f l0_3 t325).bind fun t326 => (if t326 < 0 then (some (-1)) else (some t326))))) = some r:=h;clear h;replace H:=bS.mp H;obtain ⟨t325,A30,H⟩:=H;(try dsimp only at H);have A3:=am A30;clear A30
 by_cases c4 : t325 < 0
 ·rw [if_pos c4] at H;have c4b0 : decide (t325 < 0) = true:=decide_eq_true c4;clear c4;obtain rfl:=Option.some.inj H
  go_enter Try.func67,Try.ntmps67
  go_wp2_with (first | ((with_reducible refine gate_dst (N:=2) rfl ?_);refine box_event ?hg (N:=2) ?hd (cs:=#[.int .i64 a0_0,.int .i64 a0_1,.slice A0_2 l0_2.length c0_2,.slice A0_3 l0_3.length c0_3]) (t:=97) ?hr ?_;(case hd => rfl);(case hg => rfl);(case hr => exact qq312);intro gb324 hg w5 hbox hb;have BK324:=am (hbox);have GW324:=am qq444;have GE324:=am qq444;replace HB:=am qq488;clear hb hbox hg;obtain ⟨hcz6_0,hcz6_1,hcz6_2,hcz6_3,hfz6_0,hfz6_1,hfz6_2,hfz6_3⟩:=bcl4 BK324.out) | ((with_reducible refine gate_callee (f:=110) rfl ?_);refine goesL_ (some 8) rfl rfl Try.func110 (by kernel_rfl) rfl #[.slice A0_2 l0_2.length c0_2,.int .i64 a1] rfl qq187 ?_;(with_reducible refine (laws_szMemberS.calls _ _ l0_2 a1 t325 _ ?side1 ?side2 A3.out).mono ?_);(case side1 => exact qq117);(case side2 => exact qq334);rintro e w' ⟨rfl,⟨nd,rfl⟩⟩;refine ⟨_,rfl,?_⟩))
  go_ret
  exact ⟨qq263,qq165⟩
 ·rw [if_neg c4] at H;have c4b0 : decide (t325 < 0) = false:=decide_eq_false c4;clear c4;replace H:=bS.mp H;obtain ⟨t326,A70,H⟩:=H;(try dsimp only at H);have A7:=am A70;clear A70
  by_cases c8 : t326 < 0
  ·rw [if_pos c8] at H;have c8b0 : decide (t326 < 0) = true:=decide_eq_true c8;clear c8;obtain rfl:=Option.some.inj H
   go_enter Try.func67,Try.ntmps67
   go_wp2_with (first | ((with_reducible refine gate_dst (N:=2) rfl ?_);refine box_event ?hg (N:=2) ?hd (cs:=#[.int .i64 a0_0,.int .i64 a0_1,.slice A0_2 l0_2.length c0_2,.slice A0_3 l0_3.length c0_3]) (t:=97) ?hr ?_;(case hd => rfl);(case hg => rfl);(case hr => exact qq312);intro gb324 hg w9 hbox hb;have BK324:=am (hbox);have GW324:=am qq444;have GE324:=am qq444;replace HB:=am qq488;clear hb hbox hg;obtain ⟨hcz10_0,hcz10_1,hcz10_2,hcz10_3,hfz10_0,hfz10_1,hfz10_2,hfz10_3⟩:=bcl4 BK324.out) | ((with_reducible refine gate_callee (f:=110) rfl ?_);refine goesL_ (some 8) rfl rfl Try.func110 (by kernel_rfl) rfl #[.slice A0_2 l0_2.length c0_2,.int .i64 a1] rfl qq187 ?_;(with_reducible refine (laws_szMemberS.calls _ _ l0_2 a1 t325 _ ?side1 ?side2 A3.out).mono ?_);(case side1 => exact qq117);(case side2 => exact qq334);rintro e w' ⟨rfl,⟨nd,rfl⟩⟩;refine ⟨_,rfl,?_⟩) | ((with_reducible refine gate_callee (f:=111) rfl ?_);refine goesL_ (some 14) rfl rfl Try.func111 (by kernel_rfl) rfl #[.slice A0_3 l0_3.length c0_3,.int .i64 t325] rfl qq187 ?_;(with_reducible refine (laws_szBoolS.calls _ _ l0_3 t325 t326 _ ?side1 ?side2 A7.out).mono ?_);(case side1 => exact qq18);(case side2 => exact HC0_3.out);rintro e w' ⟨rfl,⟨nd,rfl⟩⟩;refine ⟨_,rfl,?_⟩))
   go_ret
   exact ⟨qq263,qq165⟩
  ·rw [if_neg c8] at H;have c8b0 : decide (t326 < 0) = false:=decide_eq_false c8;clear c8;obtain rfl:=Option.some.inj H
   go_enter Try.func67,Try.ntmps67
   go_wp2_with (first | ((with_reducible refine gate_dst (N:=2) rfl ?_);refine box_event ?hg (N:=2) ?hd (cs:=#[.int .i64 a0_0,.int .i64 a0_1,.slice A0_2 l0_2.length c0_2,.slice A0_3 l0_3.length c0_3]) (t:=97) ?hr ?_;(case hd => rfl);(case hg => rfl);(case hr => exact qq312);intro gb324 hg w11 hbox hb;have BK324:=am (hbox);have GW324:=am qq444;have GE324:=am qq444;replace HB:=am qq488;clear hb hbox hg;obtain ⟨hcz12_0,hcz12_1,hcz12_2,hcz12_3,hfz12_0,hfz12_1,hfz12_2,hfz12_3⟩:=bcl4 BK324.out) | ((with_reducible refine gate_callee (f:=110) rfl ?_);refine goesL_ (some 8) rfl rfl Try.func110 (by kernel_rfl) rfl #[.slice A0_2 l0_2.length c0_2,.int .i64 a1] rfl qq187 ?_;(with_reducible refine (laws_szMemberS.calls _ _ l0_2 a1 t325 _ ?side1 ?side2 A3.out).mono ?_);(case side1 => exact qq117);(case side2 => exact qq334);rintro e w' ⟨rfl,⟨nd,rfl⟩⟩;refine ⟨_,rfl,?_⟩) | ((with_reducible refine gate_callee (f:=111) rfl ?_);refine goesL_ (some 14) rfl rfl Try.func111 (by kernel_rfl) rfl #[.slice A0_3 l0_3.length c0_3,.int .i64 t325] rfl qq187 ?_;(with_reducible refine (laws_szBoolS.calls _ _ l0_3 t325 t326 _ ?side1 ?side2 A7.out).mono ?_);(case side1 => exact qq18);(case side2 => exact HC0_3.out);rintro e w' ⟨rfl,⟨nd,rfl⟩⟩;refine ⟨_,rfl,?_⟩))
   go_ret
   exact ⟨qq263,qq165⟩

end Go.Proofs.Ytcbkknpmeknppaa.PFnExactPlanFood
