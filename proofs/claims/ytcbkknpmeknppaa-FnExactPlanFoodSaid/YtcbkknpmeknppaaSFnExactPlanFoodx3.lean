/- Contracts of functions that the law FnExactPlanFood reaches, for its row: lines that the kit's printer wrote for this claim, set shorter by a program of this session (own.py), and what fell in Lean proved anew. Lean checks them. -/
import Derived.Test.YtcbkknpmeknppaaSFnExactPlanFoodx0
import Derived.Test.YtcbkknpmeknppaaSFnExactPlanFoodx1
import Derived.Test.YtcbkknpmeknppaaSFnExactPlanFoodx2
namespace Go.Proofs.Ytcbkknpmeknppaa.PFnExactPlanFood
open Go.RowKit Go.Proofs.YtcbkknpmeknppaaW.PrintWords Go.Proofs.YtcbkknpmeknppaaW.PrintLast Go.Proofs.YtcbkknpmeknppaaW.PrintMore
attribute [local go_sem] max2_int min2_int max_two min_two max_three min_three max_four min_four   -- for this text's walks alone
set_option linter.unusedVariables false
set_option linter.unusedSimpArgs false

/-! ### impl_NeedOf: function 19 -/
def impl_NeedOf.l0 : Nat → Int → List (S112) → Int → Int → Option (Int)
 | 0,_,_,_,_ => none
 | k + 1,x3,x9,x10,x11 => if x11 < x10 then (if 0 ≤ x11 then (if x11 < (x9.length : Int) then (impl_NeedOf.l0 k (wrap64 (x3 + ((rd_T112 x9 x11).f2))) x9 x10 (wrap64 (x11 + 1))) else (none)) else (none)) else (some x3)
def impl_NeedOf.f (k : Nat) (l0 : List (S112)) : Option (Int) := (impl_AreCrew.f k l0).bind fun t110 => (if t110 = true then (impl_NeedOf.l0 k 0 l0 (l0.length : Int) 0) else (some 0))
set_option maxHeartbeats 8000000 in
set_option maxRecDepth 100000 in
theorem impl_NeedOf.calls (k : Nat) (A0 : Option Addr) (c0 : Nat) (l0 : List (S112)) (r : Int) (w : World) (hr0 : Kd.C k112 w A0 l0.length l0) (hc0 : l0.length ≤ c0) (h : impl_NeedOf.f k l0 = some r) :
  Calls Try.prog 19 #[.slice A0 l0.length c0] w fun e w' => e = .returned (.int .i64 r) ∧ Below w.heap.size w w':=by
 have hu112:=Try.underlying112;have HR0:=am hr0;have HC0:=am hc0;clear hr0 hc0;have HB:=am qq465;have H : ((impl_AreCrew.f k l0).bind fun t110 => (if t110 = true then (impl_NeedOf.l0 k 0 l0 (l0.length : Int) 0) else (some 0))) = some r:=h;clear h;replace H:=bS.mp H;obtain ⟨t110,A20,H⟩:=H;(try dsimp only at H);have A2:=am A20;clear A20
 by_cases c3 : t110 = true
 ·subst c3;rw [if_pos rfl] at H;have H':=am H;clear H
  go_enter Try.func19,Try.ntmps19
  go_wp2_with (first | ((with_reducible refine gate_callee (f:=75) rfl ?_);refine goesL_ (some 7) rfl rfl Try.func75 (by kernel_rfl) rfl #[.slice A0 l0.length c0] rfl qq187 ?_;(with_reducible refine (impl_AreCrew.calls k _ _ l0 true _ ?side1 ?side2 A2.out).mono ?_);(case side1 => exact qq189);(case side2 => exact HC0.out);rintro e w4 ⟨rfl,hb⟩;refine ⟨_,rfl,?_⟩;replace HB:=am qq488;(try clear hb);(try clear hb2);(try clear hk);(try clear hi)))
  go_loopg [3,11] k (fun kq v3 v11 w' => ∃ (x3_1 : Int) (x11_1 : Int),v3 = .int .i64 x3_1 ∧ v11 = .int .i64 x11_1 ∧ Aside0 (impl_NeedOf.l0 kq x3_1 l0 (l0.length : Int) x11_1 = some r) ∧ Aside0 (kq ≤ k) ∧ Aside0 (Below w.heap.size w w'))
  case atStart => exact ⟨(0),(0),qq311,qq311,H',⟨Nat.le_refl _⟩,⟨qq208⟩⟩
  case round =>
   clear H'
   try clear c1
   try clear p2
   try clear c3
   obtain ⟨x3_1,x11_1,rfl,rfl,HA,HK1,HB⟩:=hrel
   cases gk with
   | zero => exact absurd HA.out (by simp [impl_NeedOf.l0])
   | succ k1 =>
    have H:=HA.out;clear HA;simp only [impl_NeedOf.l0] at H
    by_cases c5 : x11_1 < (l0.length : Int)
    ·rw [if_pos c5] at H;have c5b0 : decide (x11_1 < (l0.length : Int)) = true:=decide_eq_true c5;clear c5
     by_cases c6 : 0 ≤ x11_1
     ·rw [if_pos c6] at H;have c6b0 : decide (0 ≤ x11_1) = true:=decide_eq_true c6;clear c6
      by_cases c7 : x11_1 < (l0.length : Int)
      ·rw [if_pos c7] at H;have c7b0 : decide (x11_1 < (l0.length : Int)) = true:=decide_eq_true c7;clear c7;have H':=am H;clear H;have p111 : 0 ≤ (x11_1 : Int):=odt qq309;have q111 : x11_1 < (l0.length : Int):=odt qq309;obtain ⟨ad111,e111,hx111_0,hx111_1,hx111_2,hx111_3⟩:=at_T112 HR0.out x11_1 p111 q111
       cases e111
       replace hx111_0:=(ct HB.out hx111_0 :)
       replace hx111_1:=(ct HB.out hx111_1 :)
       replace hx111_2:=(ct HB.out hx111_2 :)
       replace hx111_3:=(ct HB.out hx111_3 :)
       replace p111:=eq_true p111;replace q111:=eq_true q111;go_wp2_with (first | ((with_reducible refine gate_dst (N:=5) rfl ?_);refine box_event ?hg (N:=5) ?hd (cs:=#[.int .i64 0,.int .i64 0,.int .i64 0,.bool false]) (t:=112) ?hr ?_;(case hd => rfl);(case hg => rfl);(case hr => exact qq312);intro gb112 hg w8 hbox hb;have BK112:=am (hbox);have GW112:=am ((qq144 : w.heap.size ≤ gb112));have GE112:=am ((qq144 : w.heap.size ≤ gb112));replace HB:=am qq488;clear hb hbox hg;obtain ⟨hcz9_0,hcz9_1,hcz9_2,hcz9_3,hfz9_0,hfz9_1,hfz9_2,hfz9_3⟩:=bcl4 BK112.out))
       go_roundg k1
       case measure => have:=HK1.out;omega
       case rel => exact ⟨(wrap64 (x3_1 + ((rd_T112 l0 x11_1).f2))),(wrap64 (x11_1 + 1)),qq311,qq311,H',⟨qq331⟩,⟨by repeat (first | (with_reducible first | exact HB.out | apply bA | apply bN | apply bD | refine below_set ?_ GE112.out) | exact HB.out)⟩⟩
      ·rw [if_neg c7] at H;exact absurd H (by simp)
     ·rw [if_neg c6] at H;exact absurd H (by simp)
    ·rw [if_neg c5] at H;have c5b0 : decide (x11_1 < (l0.length : Int)) = false:=decide_eq_false c5;clear c5;obtain rfl:=Option.some.inj H;go_wp2
     go_ret
     exact ⟨qq263,qq208⟩
 ·replace c3:=Bool.eq_false_iff.mpr c3;subst c3;have H1 : (some 0) = some r:=by rw [if_neg (show ¬ (false = true) by decide)] at H;exact H
  clear H;have H:=H1;clear H1;obtain rfl:=Option.some.inj H
  go_enter Try.func19,Try.ntmps19
  go_wp2_with (first | ((with_reducible refine gate_callee (f:=75) rfl ?_);refine goesL_ (some 7) rfl rfl Try.func75 (by kernel_rfl) rfl #[.slice A0 l0.length c0] rfl qq187 ?_;(with_reducible refine (impl_AreCrew.calls k _ _ l0 false _ ?side1 ?side2 A2.out).mono ?_);(case side1 => exact qq189);(case side2 => exact HC0.out);rintro e w10 ⟨rfl,hb⟩;refine ⟨_,rfl,?_⟩;replace HB:=am qq488;(try clear hb);(try clear hb2);(try clear hk);(try clear hi)))
  go_ret
  exact ⟨qq263,qq208⟩

/-! ### impl_IsRule: function 26 -/
def impl_IsRule.f (a0_0 : Int) (a0_1 : Int) : Option (Bool) := (impl_InRange.f a0_1 1 10).bind fun t114 => (if t114 = true then ((impl_InRange.f a0_0 0 (wrap64 (a0_1 - 1))).bind fun t115 => (some t115)) else (some false))
set_option maxHeartbeats 8000000 in
set_option maxRecDepth 100000 in
theorem impl_IsRule.calls (a0_0 : Int) (a0_1 : Int) (r : Bool) (w : World) (h : impl_IsRule.f a0_0 a0_1 = some r) :
  Calls Try.prog 26 #[.agg #[.int .i64 a0_0,.int .i64 a0_1]] w fun e w' => e = .returned (.bool r) ∧ Below w.heap.size w w':=by
 have hu37:=Try.underlying37;have HB:=am qq465;have H : ((impl_InRange.f a0_1 1 10).bind fun t114 => (if t114 = true then ((impl_InRange.f a0_0 0 (wrap64 (a0_1 - 1))).bind fun t115 => (some t115)) else (some false))) = some r:=h;clear h;replace H:=bS.mp H;obtain ⟨t114,A20,H⟩:=H;(try dsimp only at H);have A2:=am A20;clear A20
 by_cases c3 : t114 = true
 ·subst c3;rw [if_pos rfl] at H;replace H:=bS.mp H;obtain ⟨t115,A40,H⟩:=H;(try dsimp only at H);have A4:=am A40;clear A40;obtain rfl:=Option.some.inj H
  go_enter Try.func26,Try.ntmps26
  go_wp2_with (first | ((with_reducible refine gate_dst (N:=1) rfl ?_);refine box_event ?hg (N:=1) ?hd (cs:=#[.int .i64 a0_0,.int .i64 a0_1]) (t:=37) ?hr ?_;(case hd => rfl);(case hg => rfl);(case hr => exact qq312);intro gb113 hg w5 hbox hb;have BK113:=am (hbox);have GW113:=am qq432;have GE113:=am qq432;replace HB:=am qq488;clear hb hbox hg;obtain ⟨hcz6_0,hcz6_1,hfz6_0,hfz6_1⟩:=bcl2 BK113.out) | ((with_reducible refine gate_callee (f:=76) rfl ?_);refine goesL_ (some 5) rfl rfl Try.func76 (by kernel_rfl) rfl #[.int .i64 a0_1,.int .i64 1,.int .i64 10] rfl qq187 ?_;(with_reducible refine (impl_InRange.calls a0_1 1 10 true _ A2.out).mono ?_);rintro e w' ⟨rfl,⟨nd,rfl⟩⟩;refine ⟨_,rfl,?_⟩) | (go_at_call 76;(with_reducible refine (impl_InRange.calls a0_0 0 (wrap64 (a0_1 - 1)) t115 _ A4.out).mono ?_);rintro e w' ⟨rfl,⟨nd,rfl⟩⟩))
  go_ret
  exact ⟨qq263,qq185⟩
 ·replace c3:=Bool.eq_false_iff.mpr c3;subst c3;have H1 : (some false) = some r:=by rw [if_neg (show ¬ (false = true) by decide)] at H;exact H
  clear H;have H:=H1;clear H1;obtain rfl:=Option.some.inj H
  go_enter Try.func26,Try.ntmps26
  go_wp2_with (first | ((with_reducible refine gate_dst (N:=1) rfl ?_);refine box_event ?hg (N:=1) ?hd (cs:=#[.int .i64 a0_0,.int .i64 a0_1]) (t:=37) ?hr ?_;(case hd => rfl);(case hg => rfl);(case hr => exact qq312);intro gb113 hg w7 hbox hb;have BK113:=am (hbox);have GW113:=am qq432;have GE113:=am qq432;replace HB:=am qq488;clear hb hbox hg;obtain ⟨hcz8_0,hcz8_1,hfz8_0,hfz8_1⟩:=bcl2 BK113.out) | ((with_reducible refine gate_callee (f:=76) rfl ?_);refine goesL_ (some 5) rfl rfl Try.func76 (by kernel_rfl) rfl #[.int .i64 a0_1,.int .i64 1,.int .i64 10] rfl qq187 ?_;(with_reducible refine (impl_InRange.calls a0_1 1 10 false _ A2.out).mono ?_);rintro e w' ⟨rfl,⟨nd,rfl⟩⟩;refine ⟨_,rfl,?_⟩))
  go_ret
  exact ⟨qq263,qq185⟩

/-! ### impl_last: function 123 -/
def impl_last.f (l0 : List Bool) (a1 : Int) : Option (List Bool) := if 0 ≤ (mx (wrap64 ((l0.length : Int) - a1)) 0) then (if (mx (wrap64 ((l0.length : Int) - a1)) 0) ≤ (l0.length : Int) then (some (l0.drop ((mx (wrap64 ((l0.length : Int) - a1)) 0) : Int).toNat)) else (none)) else (none)
set_option maxHeartbeats 8000000 in
set_option maxRecDepth 100000 in
theorem impl_last.calls (P0_ : Nat → Prop) (A0 : Option Addr) (c0 : Nat) (l0 : List Bool) (a1 : Int) (r : List Bool) (w : World) (hs0 : Kd.V Kd.bool 4 w w.heap.size (fun k_ => P0_ k_) (.slice A0 l0.length c0) l0) (h : impl_last.f l0 a1 = some r) :
  Calls Try.prog 123 #[.slice A0 l0.length c0,.int .i64 a1] w fun e w' => ∃ v0_ : Value,e = .returned (v0_) ∧ Kd.V Kd.bool 4 w' w.heap.size (fun k_ => (P0_ k_ ∨ w.heap.size ≤ k_)) v0_ r ∧ Below w.heap.size w w':=by
 have HO0:=am (show Kd.V Kd.bool 4 w w.heap.size (fun k_ => (P0_ k_ ∨ w.heap.size ≤ k_)) (.slice A0 l0.length c0) l0 from Kd.V_mono hs0 (fun k_ hk => .inl hk));have HB:=am qq465;have H : (if 0 ≤ (mx (wrap64 ((l0.length : Int) - a1)) 0) then (if (mx (wrap64 ((l0.length : Int) - a1)) 0) ≤ (l0.length : Int) then (some (l0.drop ((mx (wrap64 ((l0.length : Int) - a1)) 0) : Int).toNat)) else (none)) else (none)) = some r:=h;clear h;obtain ⟨ji3,hji3⟩ : ∃ j_ : Int,(mx (wrap64 ((l0.length : Int) - a1)) 0) = j_:=⟨_,rfl⟩
 replace H : (if 0 ≤ (ji3) then (if (ji3) ≤ (l0.length : Int) then (some (l0.drop ((ji3) : Int).toNat)) else (none)) else (none)) = some r:=by first | (rw [hji3] at H;exact H) | (simp only [hji3] at H ⊢;exact H)
 (try (have hji3l : 0 ≤ ji3:=by (rw [← hji3];unfold mx;(repeat' split) <;> omega)));(try (have hji3m : 0 ≤ ji3:=by omega));have hji3_ : (if (wrap64 ((l0.length : Int) - a1)) < 0 then 0 else (wrap64 ((l0.length : Int) - a1))) = ji3:=hji3
 by_cases c4 : 0 ≤ (ji3)
 ·rw [if_pos c4] at H;have c4b0:=eq_true c4;have c4b1 : decide (0 ≤ (ji3)) = true:=decide_eq_true c4;clear c4
  by_cases c5 : (ji3) ≤ (l0.length : Int)
  ·rw [if_pos c5] at H;have c5b0:=eq_true c5;have c5b1 : decide ((ji3) ≤ (l0.length : Int)) = true:=decide_eq_true c5;clear c5;obtain ⟨y116,hy116⟩ : ∃ y_ : List Bool,y_ = (l0.drop ((ji3) : Int).toNat):=⟨_,rfl⟩
   replace H : (some y116) = some r:=by first | (rw [hy116];with_reducible exact H) | (have H2_:=(Option.bind_some _ _).symm.trans H;rw [hy116];with_reducible exact H2_) | (have H2_:=(Option.bind_some _ _).symm.trans H;with_reducible exact H2_) | with_reducible exact H | (rw [hy116];exact H) | exact H
   have Ny116:=am hy116;clear hy116;obtain rfl:=Option.some.inj H;have q6 : ((ji3) : Int) ≤ ((l0.length : Int) : Int):=odt qq309;obtain ⟨i06,hi06,_,hsz6,_⟩:=info_parts info4;have hroom6 : l0.length ≤ c0:=(Kd.V_reads' HO0.out).2.1;have hC6 : Kd.F Kd.bool _ _ A0 l0.length l0:=(Kd.V_at (base:=w.heap.size) HO0.out).2.2;have q06 : (0 : Int) ≤ ((ji3) : Int):=odt qq309;have hcut6:=cut_from (P:=Try.prog) 25 4 .i64 Try.underlying25 hi06 1 hsz6 A0 l0.length c0 (ji3) q06 q6;have hr6:=Kd.F_cut (m:=((ji3) : Int).toNat) (c:=c0) hC6 (by omega) hroom6;obtain ⟨A6,hA6⟩ : ∃ A1,A1 = (if c0 = ((ji3) : Int).toNat then A0 else (A0 : Option Addr).map (·.add (((ji3) : Int).toNat * 1))):=⟨_,rfl⟩
   obtain ⟨c6,hc6⟩ : ∃ c1,c1 = c0 - ((ji3) : Int).toNat:=⟨_,rfl⟩
   have hy6 : y116.length = l0.length - ((ji3) : Int).toNat:=(by rw [Ny116.out,List.length_drop] <;> omega)
   rw [show (l0).drop ((ji3) : Int).toNat = y116 from Ny116.out.symm] at hr6;replace hr6 : Kd.F Kd.bool _ _ A6 y116.length y116:=(by rw [hA6];exact hr6)
   rw [← hy6,← hA6,← hc6] at hcut6;have HO120:=am (show Kd.V Kd.bool 4 _ w.heap.size _ (.slice A6 y116.length c6) y116 from Kd.V_mk (by rw [hy6,hc6];exact Nat.sub_le_sub_right hroom6 _) hr6);have HC120:=am (show y116.length ≤ c6 from by rw [hy6,hc6];exact Nat.sub_le_sub_right hroom6 _);clear hr6 hC6 hroom6 hi06 hsz6 hc6;have KY6:=am hy6;have KA6:=am hA6;clear hy6 hA6;replace q6:=eq_true q6
   go_enter Try.func123,Try.ntmps123
   go_wp2
   go_ret
   exact ⟨_,by first | rfl | (simp [errW_none,errW_some] <;> rfl) | (simp only [← hji3];first | rfl | (simp [errW_none,errW_some] <;> rfl)) | (simp [*,errW_none,errW_some] <;> rfl),by (with_reducible repeat (first | apply Kd.V_alloc | apply Kd.V_drewN | apply Kd.V_drew));exact HO120.out,qq208⟩
  ·rw [if_neg c5] at H;exact absurd H (by simp)
 ·rw [if_neg c4] at H;exact absurd H (by simp)

/-! ### impl_AddDay: function 82 -/
def impl_AddDay.f (l0 : List Bool) (a1 : Bool) : Option (List Bool) := (some (([] : List Bool) : List Bool)).bind fun y121 => (if y121.length + l0.length < 140737488355328 then ((some (y121 ++ l0 : List Bool)).bind fun y124 => (if y124.length < 140737488355328 then ((some (([] : List Bool) : List Bool)).bind fun y130 => ((impl_last.f (y124 ++ [a1]) 10).bind fun t133 => (if y130.length + t133.length < 140737488355328 then (some (y130 ++ t133)) else (none)))) else (none))) else (none))
set_option maxHeartbeats 8000000 in
set_option maxRecDepth 100000 in
theorem impl_AddDay.calls (A0 : Option Addr) (c0 : Nat) (l0 : List Bool) (a1 : Bool) (r : List Bool) (w : World) (hr0 : Kd.C Kd.bool w A0 l0.length l0) (hc0 : l0.length ≤ c0) (h : impl_AddDay.f l0 a1 = some r) :
  Calls Try.prog 82 #[.slice A0 l0.length c0,.bool a1] w fun e w' => ∃ v0_ : Value,e = .returned (v0_) ∧ Kd.R Kd.bool 4 w' w.heap.size (fun _ => True) v0_ r ∧ Below w.heap.size w w':=by
 have HR0:=am hr0;have HC0:=am hc0;clear hr0 hc0;have HB:=am qq465;have H : ((some (([] : List Bool) : List Bool)).bind fun y121 => (if y121.length + l0.length < 140737488355328 then ((some (y121 ++ l0 : List Bool)).bind fun y124 => (if y124.length < 140737488355328 then ((some (([] : List Bool) : List Bool)).bind fun y130 => ((impl_last.f (y124 ++ [a1]) 10).bind fun t133 => (if y130.length + t133.length < 140737488355328 then (some (y130 ++ t133)) else (none)))) else (none))) else (none))) = some r:=h;clear h;obtain ⟨y121,hy121⟩ : ∃ y_ : List Bool,y_ = (([] : List Bool)):=⟨_,rfl⟩
 replace H : (if y121.length + l0.length < 140737488355328 then ((some (y121 ++ l0 : List Bool)).bind fun y124 => (if y124.length < 140737488355328 then ((some (([] : List Bool) : List Bool)).bind fun y130 => ((impl_last.f (y124 ++ [a1]) 10).bind fun t133 => (if y130.length + t133.length < 140737488355328 then (some (y130 ++ t133)) else (none)))) else (none))) else (none)) = some r:=by first | (rw [hy121];with_reducible exact H) | (have H2_:=(Option.bind_some _ _).symm.trans H;rw [hy121];with_reducible exact H2_) | (have H2_:=(Option.bind_some _ _).symm.trans H;with_reducible exact H2_) | with_reducible exact H | (rw [hy121];exact H) | exact H
 have Ny121:=am hy121;clear hy121
 by_cases c3 : y121.length + l0.length < 140737488355328
 ·rw [if_pos c3] at H;have LMc3:=am c3;clear c3;obtain ⟨y124,hy124⟩ : ∃ y_ : List Bool,y_ = (y121 ++ l0):=⟨_,rfl⟩
  replace H : (if y124.length < 140737488355328 then ((some (([] : List Bool) : List Bool)).bind fun y130 => ((impl_last.f (y124 ++ [a1]) 10).bind fun t133 => (if y130.length + t133.length < 140737488355328 then (some (y130 ++ t133)) else (none)))) else (none)) = some r:=by first | (rw [hy124];with_reducible exact H) | (have H2_:=(Option.bind_some _ _).symm.trans H;rw [hy124];with_reducible exact H2_) | (have H2_:=(Option.bind_some _ _).symm.trans H;with_reducible exact H2_) | with_reducible exact H | (rw [hy124];exact H) | exact H
  have Ny124:=am hy124;clear hy124
  by_cases c4 : y124.length < 140737488355328
  ·rw [if_pos c4] at H;have LMc4:=am c4;clear c4;obtain ⟨y127,hy127⟩ : ∃ y_ : List Bool,y_ = (y124 ++ [a1]):=⟨_,rfl⟩
   replace H : ((some (([] : List Bool) : List Bool)).bind fun y130 => ((impl_last.f y127 10).bind fun t133 => (if y130.length + t133.length < 140737488355328 then (some (y130 ++ t133)) else (none)))) = some r:=by first | (rw [hy127];with_reducible exact H) | (have H2_:=(Option.bind_some _ _).symm.trans H;rw [hy127];with_reducible exact H2_) | (have H2_:=(Option.bind_some _ _).symm.trans H;with_reducible exact H2_) | with_reducible exact H | (rw [hy127];exact H) | exact H
   have Ny127:=am hy127;clear hy127;obtain ⟨y130,hy130⟩ : ∃ y_ : List Bool,y_ = (([] : List Bool)):=⟨_,rfl⟩
   replace H : ((impl_last.f y127 10).bind fun t133 => (if y130.length + t133.length < 140737488355328 then (some (y130 ++ t133)) else (none))) = some r:=by first | (rw [hy130];with_reducible exact H) | (have H2_:=(Option.bind_some _ _).symm.trans H;rw [hy130];with_reducible exact H2_) | (have H2_:=(Option.bind_some _ _).symm.trans H;with_reducible exact H2_) | with_reducible exact H | (rw [hy130];exact H) | exact H
   have Ny130:=am hy130;clear hy130;replace H:=bS.mp H;obtain ⟨t133,A50,H⟩:=H;(try dsimp only at H);have A5:=am A50;clear A50
   by_cases c6 : y130.length + t133.length < 140737488355328
   ·rw [if_pos c6] at H;have LMc6:=am c6;clear c6;obtain ⟨y136,hy136⟩ : ∃ y_ : List Bool,y_ = (y130 ++ t133):=⟨_,rfl⟩
    replace H : (some y136) = some r:=by first | (rw [hy136];with_reducible exact H) | (have H2_:=(Option.bind_some _ _).symm.trans H;rw [hy136];with_reducible exact H2_) | (have H2_:=(Option.bind_some _ _).symm.trans H;with_reducible exact H2_) | with_reducible exact H | (rw [hy136];exact H) | exact H
    have Ny136:=am hy136;clear hy136;obtain rfl:=Option.some.inj H
    go_enter Try.func82,Try.ntmps82
    go_wp2_with (first | ((with_reducible refine gate_dst (N:=6) rfl ?_);refine Kd.R_lit Kd.bool _ 4 ?hg (N:=6) ?hd (xs:=([] : List Bool)) (inner:=[]) (ok:=fun _ => True) (okp:=fun _ => True) ?hr ?hp (fun _ hk => hk) trivial (Below.refl _ _) (Nat.le_refl _) (by simp) ?_;(case hd => rfl);(case hg => rfl);(case hr => exact qq312);(case hp => exact qq330);intro v122 w7 ho8 hb hg_ hnew_;clear hg_ hnew_;(first | rw [← Ny121.out] at ho8 | (simp only [Int.reduceToNat] at ho8;rw [← Ny121.out] at ho8));have HO123:=am (Kd.R_lower ho8 (below_size qq208));replace HB:=am qq488;clear hb ho8) | ((with_reducible refine gate_builtin (b:=.append) (xs:=#[.tmp 6,.tmp 7]) rfl ?_);at_builtin;refine Kd.R_append_rows Kd.bool (w0:=w) w.heap.size rfl (.tmp 6) (.tmp 7) 25 4 (.bool false) 1 rfl Try.underlying25 info4 rfl (by decide) (by omega) v122 y121 l0 _ _ _ (fun _ => True) (fun _ => False) rfl rfl ?aO ?aR (fun _ _ h => h) (fun _ h => h.elim) ?aF ?aB ?aS ?aL ?_;(case aR => exact qq132);(case aB => exact qq202);(case aF => exact qq328);(case aO => exact (by (with_reducible repeat (first | apply kA | apply kN | apply kD));exact HO123.out));(case aS => exact qq191);(case aL => have:=LMc3.out;omega);intro v125 w9 ho hb hg hat;rw [← Ny124.out] at ho;replace HB:=am (hb);have HO126:=am (ho);clear HO123;clear ho hb hg hat) | ((with_reducible refine gate_builtin (b:=.append) (xs:=#[.tmp 8,.tmp 10]) rfl ?_);at_builtin;refine Kd.R_append Kd.bool (w0:=w) w.heap.size rfl (.tmp 8) (.tmp 10) 25 4 (.bool false) 1 rfl Try.underlying25 info4 rfl (by decide) (by omega) v125 y124 a1 [.bool a1] (fun _ => True) (fun _ => False) rfl rfl ?aP (fun _ hk => hk.elim) ?aF ?aO ?aB ?aS ?aL ?_;(case aP => exact rfl);(case aB => exact qq202);(case aF => exact qq328);(case aO => exact (by (with_reducible repeat (first | apply kA | apply kN | apply kD));exact HO126.out));(case aS => exact qq191);(case aL => have:=LMc4.out;omega);intro v128 w10 ho hb hg hat;rw [← Ny127.out] at ho;replace HB:=am (hb);have HO129:=am (ho);clear HO126;clear ho hb hg hat) | ((with_reducible refine gate_dst (N:=12) rfl ?_);refine Kd.R_lit Kd.bool _ 4 ?hg (N:=12) ?hd (xs:=([] : List Bool)) (inner:=[]) (ok:=fun _ => True) (okp:=fun _ => True) ?hr ?hp (fun _ hk => hk) trivial (Below.refl _ _) (Nat.le_refl _) (by simp) ?_;(case hd => rfl);(case hg => rfl);(case hr => exact qq312);(case hp => exact qq330);intro v131 w11 ho12 hb hg_ hnew_;clear hg_ hnew_;(first | rw [← Ny130.out] at ho12 | (simp only [Int.reduceToNat] at ho12;rw [← Ny130.out] at ho12));have HO132:=am (Kd.R_lower (Kd.R_new' ho12 (Kd.R_lt qq298)) (below_size qq208));replace HO129:=am (Kd.R_elder' qq298 (Kd.R_base ho12) hb);replace HB:=am qq488;clear hb ho12;obtain ⟨Ao13,co13,eo13⟩:=Kd.R_slice HO129.out;subst eo13) | ((with_reducible refine gate_callee (f:=123) rfl ?_);refine goesL_ (some 14) rfl rfl Try.func123 (by kernel_rfl) rfl #[.slice Ao13 y127.length co13,.int .i64 10] rfl qq187 ?_;(with_reducible refine (impl_last.calls (fun k_ => some k_ = (.slice Ao13 y127.length co13 : Value).ownBlock) _ _ y127 10 t133 _ ?side1 A5.out).mono ?_);(case side1 => exact Kd.R_V (Kd.R_tight rfl (HO129.out)));rintro e w14 ⟨v134,rfl,ho0,hb⟩;refine ⟨_,rfl,?_⟩;have HO135:=am (Kd.V_lower (Kd.V_mono (ok':=fun k_ => some k_ ≠ (v131 : Value).ownBlock) ho0 (fun k_ hk_ => Or.elim hk_ (fun hs_ => ((HO129.out).1 k_ hs_.symm).2) (fun hn_ => (Kd.fresh' (Kd.R_lt qq297) k_ hn_)))) (below_size qq208));replace HO129:=am (Kd.R_below qq298 hb);replace HO132:=am (Kd.R_below qq297 hb);replace HB:=am qq488;(try clear hb);(try clear hb2);(try clear hk);(try clear hi);(try clear ho0);obtain ⟨Ao16,co16,eo16⟩:=Kd.V_slice HO135.out;subst eo16) | ((with_reducible refine gate_builtin (b:=.append) (xs:=#[.tmp 12,.tmp 14]) rfl ?_);at_builtin;refine Kd.R_append_rows Kd.bool (w0:=w) w.heap.size rfl (.tmp 12) (.tmp 14) 25 4 (.bool false) 1 rfl Try.underlying25 info4 rfl (by decide) (by omega) v131 y130 t133 _ _ _ (fun k_ => some k_ ≠ (.slice Ao13 y127.length co13 : Value).ownBlock) (fun _ => False) rfl rfl ?aO ?aR (fun _ _ h => h) (fun _ h => h.elim) ?aF ?aB ?aS ?aL ?_;(case aR => repeat (first | exact (Kd.V_reads' HO135.out).2.2 | (with_reducible refine cA ?_ _) | (with_reducible refine cN ?_ _) | (with_reducible refine cD ?_)));(case aB => exact qq202);(case aF => exact (fun k_ hk => Kd.fresh' (Kd.R_lt qq298) k_ hk));(case aO => exact (by (with_reducible repeat (first | apply kA | apply kN | apply kD));exact Kd.R_mono HO132.out (fun _ hk => hk.2)));(case aS => exact qq191);(case aL => have:=LMc6.out;omega);intro v137 w15 ho hb hg hat;rw [← Ny136.out] at ho;replace HO129:=am (Kd.R_after (ok:=(fun _ => True)) qq298 hg hat);replace HO135:=am (Kd.V_afterv (ok:=(fun _ => True)) (by (with_reducible repeat (first | apply Kd.V_alloc | apply Kd.V_drewN | apply Kd.V_drew));exact Kd.V_mono HO135.out (fun _ hk => ⟨trivial,hk⟩)) hg hat);replace HB:=am (hb);have HO138:=am (ho);clear HO132;clear ho hb hg hat))
    go_ret
    exact ⟨_,qq263,by (with_reducible repeat (first | apply kA | apply kN | apply kD));exact Kd.R_mono HO138.out (fun _ hk => trivial),qq208⟩
   ·rw [if_neg c6] at H;exact absurd H (by simp)
  ·rw [if_neg c4] at H;exact absurd H (by simp)
 ·rw [if_neg c3] at H;exact absurd H (by simp)

/-! ### impl_CountStorms: function 124 -/
def impl_CountStorms.l0 : Nat → Int → List Bool → Int → Int → Option (Int)
 | 0,_,_,_,_ => none
 | k + 1,x3,x6,x7,x8 => if x8 < x7 then (if 0 ≤ x8 then (if x8 < (x6.length : Int) then (if rdOf false x6 x8 = true then (impl_CountStorms.l0 k (wrap64 (x3 + 1)) x6 x7 (wrap64 (x8 + 1))) else (impl_CountStorms.l0 k x3 x6 x7 (wrap64 (x8 + 1)))) else (none)) else (none)) else (some x3)
def impl_CountStorms.f (k : Nat) (l0 : List Bool) : Option (Int) := impl_CountStorms.l0 k 0 l0 (l0.length : Int) 0
set_option maxHeartbeats 8000000 in
set_option maxRecDepth 100000 in
theorem impl_CountStorms.calls (k : Nat) (A0 : Option Addr) (c0 : Nat) (l0 : List Bool) (r : Int) (w : World) (hr0 : Kd.C Kd.bool w A0 l0.length l0) (hc0 : l0.length ≤ c0) (h : impl_CountStorms.f k l0 = some r) :
  Calls Try.prog 124 #[.slice A0 l0.length c0] w fun e w' => e = .returned (.int .i64 r) ∧ Drawn0 w w':=by
 have HR0:=am hr0;have HC0:=am hc0;clear hr0 hc0;have H : (impl_CountStorms.l0 k 0 l0 (l0.length : Int) 0) = some r:=h;clear h;have H':=am H;clear H
 go_enter Try.func124,Try.ntmps124
 go_wp2
 go_loopg [3,8] k (fun kq v3 v8 w' => ∃ (x3_1 : Int) (x8_1 : Int),v3 = .int .i64 x3_1 ∧ v8 = .int .i64 x8_1 ∧ Aside0 (impl_CountStorms.l0 kq x3_1 l0 (l0.length : Int) x8_1 = some r) ∧ Aside0 (kq ≤ k) ∧ Drawn0 w w')
 case atStart => exact ⟨(0),(0),qq311,qq311,H',⟨Nat.le_refl _⟩,qq307⟩
 case round =>
  clear H'
  try clear c1
  obtain ⟨x3_1,x8_1,rfl,rfl,HA,HK1,⟨m1,rfl⟩⟩:=hrel
  cases gk with
  | zero => exact absurd HA.out (by simp [impl_CountStorms.l0])
  | succ k1 =>
   have H:=HA.out;clear HA;simp only [impl_CountStorms.l0] at H
   by_cases c2 : x8_1 < (l0.length : Int)
   ·rw [if_pos c2] at H;have c2b0 : decide (x8_1 < (l0.length : Int)) = true:=decide_eq_true c2;clear c2
    by_cases c3 : 0 ≤ x8_1
    ·rw [if_pos c3] at H;have c3b0 : decide (0 ≤ x8_1) = true:=decide_eq_true c3;clear c3
     by_cases c4 : x8_1 < (l0.length : Int)
     ·rw [if_pos c4] at H;have c4b0 : decide (x8_1 < (l0.length : Int)) = true:=decide_eq_true c4;clear c4;obtain ⟨bq5,hbq5⟩ : ∃ b_ : Bool,b_ = (rdOf false l0 x8_1):=⟨_,rfl⟩
      replace H : (if bq5 = true then (impl_CountStorms.l0 k1 (wrap64 (x3_1 + 1)) l0 (l0.length : Int) (wrap64 (x8_1 + 1))) else (impl_CountStorms.l0 k1 x3_1 l0 (l0.length : Int) (wrap64 (x8_1 + 1)))) = some r:=by rw [← hbq5] at H;exact H
      have Nbq5:=am hbq5;clear hbq5
      by_cases c6 : bq5 = true
      ·subst c6;rw [if_pos rfl] at H;have H':=am H;clear H;have p139 : 0 ≤ (x8_1 : Int):=odt qq309;have q139 : x8_1 < (l0.length : Int):=odt qq309;obtain ⟨ad139,e139,hx139_0⟩:=Kd.at_bool HR0.out x8_1 p139 q139;(try rw [← Nbq5.out] at hx139_0)
       cases e139
       replace p139:=eq_true p139;replace q139:=eq_true q139;go_wp2
       go_roundg k1
       case measure => have:=HK1.out;omega
       case rel => exact ⟨(wrap64 (x3_1 + 1)),(wrap64 (x8_1 + 1)),qq311,qq311,H',⟨qq331⟩,qq307⟩
      ·replace c6:=Bool.eq_false_iff.mpr c6;subst c6;have H1 : (impl_CountStorms.l0 k1 x3_1 l0 (l0.length : Int) (wrap64 (x8_1 + 1))) = some r:=by rw [if_neg (show ¬ (false = true) by decide)] at H;exact H
       clear H;have H:=H1;clear H1;have H':=am H;clear H;have p139 : 0 ≤ (x8_1 : Int):=odt qq309;have q139 : x8_1 < (l0.length : Int):=odt qq309;obtain ⟨ad139,e139,hx139_0⟩:=Kd.at_bool HR0.out x8_1 p139 q139;(try rw [← Nbq5.out] at hx139_0)
       cases e139
       replace p139:=eq_true p139;replace q139:=eq_true q139;go_wp2
       go_roundg k1
       case measure => have:=HK1.out;omega
       case rel => exact ⟨(x3_1),(wrap64 (x8_1 + 1)),qq311,qq311,H',⟨qq331⟩,qq307⟩
     ·rw [if_neg c4] at H;exact absurd H (by simp)
    ·rw [if_neg c3] at H;exact absurd H (by simp)
   ·rw [if_neg c2] at H;have c2b0 : decide (x8_1 < (l0.length : Int)) = false:=decide_eq_false c2;clear c2;obtain rfl:=Option.some.inj H;go_wp2
    go_ret
    exact ⟨qq311,qq307⟩

/-! ### impl_MayStorm: function 83 -/
def impl_MayStorm.f (k : Nat) (a0_0 : Int) (a0_1 : Int) (l1 : List Bool) : Option (Bool) := (impl_IsRule.f a0_0 a0_1).bind fun t141 => (if t141 = true then ((impl_last.f l1 (wrap64 (a0_1 - 1))).bind fun t142 => ((impl_CountStorms.f k t142).bind fun t145 => (some (decide (t145 < a0_0))))) else (some false))
def impl_MayStorm.T1 : Bool × List (List Nat × List Nat) := (true, [([], []), ([0], [0]), ([1, 1], [1]), ([2], [2]), ([2], [2]), ([4, 2], [2, 4]), ([5, 2], [2, 5]), ([3, 6, 2, 2], [2, 3, 6]), ([7, 7, 2], [2, 7]), ([2], [2]), ([9, 2], [2, 9]), ([8, 10, 2], [2, 8, 10]), ([2, 11], [2, 11]), ([12, 8, 0, 1, 2, 3, 4, 5, 6, 7, 8, 9, 10, 11, 12], [12])])
def impl_MayStorm.B1 : List Nat := [0, 1, 3, 7, 7, 23, 55, 127, 255, 7, 519, 2047, 4095, 8191]
theorem impl_MayStorm.tab1 : rtab .any (opsOf Try.f83 1) = impl_MayStorm.T1 := by kernel_rfl
theorem impl_MayStorm.bits1 : waitsOk impl_MayStorm.T1.2 impl_MayStorm.B1 = true := by kernel_rfl
set_option maxHeartbeats 8000000 in
set_option maxRecDepth 100000 in
theorem impl_MayStorm.calls (k : Nat) (a0_0 : Int) (a0_1 : Int) (A1 : Option Addr) (c1 : Nat) (l1 : List Bool) (r : Bool) (w : World) (hr1 : Kd.C Kd.bool w A1 l1.length l1) (hc1 : l1.length ≤ c1) (h : impl_MayStorm.f k a0_0 a0_1 l1 = some r) :
  Calls Try.prog 83 #[.agg #[.int .i64 a0_0,.int .i64 a0_1],.slice A1 l1.length c1] w fun e w' => e = .returned (.bool r) ∧ Below w.heap.size w w':=by
 have hu37:=Try.underlying37;have HR1:=am hr1;have HC1:=am hc1;clear hr1 hc1;have HB:=am qq465;have H : ((impl_IsRule.f a0_0 a0_1).bind fun t141 => (if t141 = true then ((impl_last.f l1 (wrap64 (a0_1 - 1))).bind fun t142 => ((impl_CountStorms.f k t142).bind fun t145 => (some (decide (t145 < a0_0))))) else (some false))) = some r:=h;clear h;replace H:=bS.mp H;obtain ⟨t141,A30,H⟩:=H;(try dsimp only at H);have A3:=am A30;clear A30
 by_cases c4 : t141 = true
 ·subst c4;rw [if_pos rfl] at H;replace H:=bS.mp H;obtain ⟨t142,A50,H⟩:=H;(try dsimp only at H);have A5:=am A50;clear A50;replace H:=bS.mp H;obtain ⟨t145,A60,H⟩:=H;(try dsimp only at H);have A6:=am A60;clear A60;obtain rfl:=Option.some.inj H
  go_enter Try.func83,Try.ntmps83
  try go_wp2_with (first | ((with_reducible refine gate_dst (N:=2) rfl ?_);refine box_event ?hg (N:=2) ?hd (cs:=#[.int .i64 a0_0,.int .i64 a0_1]) (t:=37) ?hr ?_;(case hd => rfl);(case hg => rfl);(case hr => exact qq312);intro gb140 hg w7 hbox hb;have BK140:=am (hbox);have GW140:=am qq433;have GE140:=am qq433;replace HB:=am qq488;clear hb hbox hg))
  replace BK140:=am (blk_drew BK140.out);replace HB:=am qq519;refine start_ (n:=14) (S:=fun w' => w'.cell? ⟨gb140,0,none⟩ = some (.int .i64 a0_0) ∧ w'.cell? ⟨gb140,1,none⟩ = some (.int .i64 a0_1)) (ds:=[]) #[Z,Z,Z,Z,Z,Z,Z,Z,Z,Z,Z,Z,Z,Z] (by kernel_rfl) rfl rfl ⟨(blk_cell BK140.out 0).trans rfl,(blk_cell BK140.out 1).trans rfl⟩ (fun hHeld => ?_);refine with_tabW impl_MayStorm.tab1 impl_MayStorm.bits1 (fun HT_ HW_ => ?_)
  generalize w7.drew = w8 at BK140 HB hHeld ⊢
  refine tV2 (i:=0) (N:=some 5) #[Y,Z,Z,Z,Z,Z,Z,Z,Z,Z,Z,Z,Z,Z] rfl rfl (take_ofW HT_.out HW_.out (by kernel_rfl)) hHeld ?_
  refine one_ (i:=1) (N:=some 6) #[Y,Y,Z,Z,Z,Z,Z,Z,Z,Z,Z,Z,Z,Z] rfl rfl (one_of HT_.out (by kernel_rfl)) (by decide) (fun K hK => ?_);refine goes_ Try.func26 (by kernel_rfl) rfl #[.agg #[.int .i64 a0_0,.int .i64 a0_1]] (by rfl) rfl rfl qq187 ?_;with_reducible refine (impl_IsRule.calls a0_0 a0_1 true _ A3.out).mono ?_
  rintro e w9 ⟨rfl,hb⟩
  refine ⟨_,rfl,?_⟩;replace BK140:=am qq405;replace HB:=am (below_step qq184 hb);(try clear hb);(try clear hb2);(try clear hk);(try clear hi);refine hK.out _ _ ⟨(blk_cell BK140.out 0).trans rfl,(blk_cell BK140.out 1).trans rfl⟩ (fun hHeld => ?_);clear hK K;refine norm_ (a':=?_) ?_ ?_;rotate_left
  ·show Act.put _ (some 6) _ = _
   simp only [Act.put,sA,s0,s1,i64_w,i32_w];rfl
  refine pV (i:=2) (N:=some 7) #[Y,Y,Y,Z,Z,Z,Z,Z,Z,Z,Z,Z,Z,Z] rfl rfl qT ?_
  refine pV (i:=3) (N:=some 8) #[Y,Y,Y,Y,Z,Z,Z,Z,Z,Z,Z,Z,Z,Z] rfl rfl qT ?_
  refine pV (i:=4) (N:=some 9) #[Y,Y,Y,Y,Y,Z,Z,Z,Z,Z,Z,Z,Z,Z] rfl rfl qT ?_
  refine pV (i:=9) (N:=some 14) #[Y,Y,Y,Y,Y,Z,Z,Z,Z,Y,Z,Z,Z,Z] rfl rfl qT ?_
  refine tV2 (i:=5) (N:=some 10) #[Y,Y,Y,Y,Y,Y,Z,Z,Z,Y,Z,Z,Z,Z] rfl rfl (take_ofW HT_.out HW_.out (by kernel_rfl)) hHeld ?_
  refine pV (i:=6) (N:=some 11) #[Y,Y,Y,Y,Y,Y,Y,Z,Z,Y,Z,Z,Z,Z] rfl rfl qT ?_
  refine tV2 (i:=10) (N:=some 15) #[Y,Y,Y,Y,Y,Y,Y,Z,Z,Y,Y,Z,Z,Z] rfl rfl (take_ofW HT_.out HW_.out (by kernel_rfl)) hHeld ?_
  refine one_ (i:=7) (N:=some 12) #[Y,Y,Y,Y,Y,Y,Y,Y,Z,Y,Y,Z,Z,Z] rfl rfl (one_of HT_.out (by kernel_rfl)) (by decide) (fun K hK => ?_);refine goes_ Try.func123 (by kernel_rfl) rfl #[.slice A1 l1.length c1,.int .i64 (wrap64 (a0_1 - 1))] (by rfl) rfl rfl qq187 ?_;with_reducible refine (impl_last.calls (fun k_ => k_ < w.heap.size) _ _ l1 (wrap64 (a0_1 - 1)) t142 _ ?side1 A5.out).mono ?_
  (case side1 => exact Kd.V_mk HC1.out (Kd.F_below (Kd.C_F Kd.heap_bool HR1.out) qq184))
  rintro e w10 ⟨v143,rfl,ho0,hb⟩
  refine ⟨_,rfl,?_⟩;have HO144:=am (Kd.V_lower (Kd.V_mono (ok':=fun k_ => k_ ≠ gb140) ho0 (fun k_ hk_ => Or.elim hk_ (fun hs_ => fun e_ => Nat.not_le.2 hs_ (by rw [e_];exact GW140.out)) (fun hn_ => (Kd.freshB (g:=gb140) (o:=.cells #[.int .i64 a0_0,.int .i64 a0_1] 37 (0,0)) qq260 k_ hn_)))) (below_size qq184));replace BK140:=am qq405;replace HB:=am (below_step qq184 hb);(try clear hb);(try clear hb2);(try clear hk);(try clear hi);(try clear ho0);obtain ⟨Ao11,co11,eo11⟩:=Kd.V_slice HO144.out;(first | subst eo11 | (injection eo11 with f1_ f2_ f3_;have f4_:=f1_.symm;have f5_:=f3_.symm;clear f1_ f2_ f3_;subst f4_;subst f5_));refine hK.out _ _ ⟨(blk_cell BK140.out 0).trans rfl,(blk_cell BK140.out 1).trans rfl⟩ (fun hHeld => ?_);clear hK K;refine norm_ (a':=?_) ?_ ?_;rotate_left
  ·show Act.put _ (some 12) _ = _
   simp only [Act.put,sA,s0,s1,i64_w,i32_w];rfl
  refine one_ (i:=8) (N:=some 13) #[Y,Y,Y,Y,Y,Y,Y,Y,Y,Y,Y,Z,Z,Z] rfl rfl (one_of HT_.out (by kernel_rfl)) (by decide) (fun K hK => ?_);refine goes_ Try.func124 (by kernel_rfl) rfl #[.slice Ao11 t142.length co11] (by rfl) rfl rfl qq187 ?_;with_reducible refine (impl_CountStorms.calls k _ _ t142 t145 _ ?side1 ?side2 A6.out).mono ?_
  (case side1 => repeat (first | exact (Kd.V_reads' HO144.out).2.2 | (with_reducible refine cA ?_ _) | (with_reducible refine cN ?_ _) | (with_reducible refine cD ?_)));(case side2 => exact (Kd.V_reads' HO144.out).2.1)
  rintro e w' ⟨rfl,⟨nd,rfl⟩⟩
  refine ⟨_,rfl,?_⟩;refine hK.out _ _ ⟨(blk_cell BK140.out 0).trans rfl,(blk_cell BK140.out 1).trans rfl⟩ (fun hHeld => ?_);clear hK K;refine norm_ (a':=?_) ?_ ?_;rotate_left
  ·show Act.put _ (some 13) _ = _
   simp only [Act.put,sA,s0,s1,i64_w,i32_w];rfl
  refine pV (i:=11) (N:=some 16) #[Y,Y,Y,Y,Y,Y,Y,Y,Y,Y,Y,Y,Z,Z] rfl rfl qT ?_
  refine pV (i:=12) (N:=some 17) #[Y,Y,Y,Y,Y,Y,Y,Y,Y,Y,Y,Y,Y,Z] rfl rfl qT ?_
  refine pV (i:=13) (N:=some 4) #[Y,Y,Y,Y,Y,Y,Y,Y,Y,Y,Y,Y,Y,Y] rfl rfl qT ?_
  refine done_ (done_of HT_.out (by kernel_rfl)) ?_
  try go_wp2
  go_ret
  exact ⟨qq263,qq184⟩
 ·replace c4:=Bool.eq_false_iff.mpr c4;subst c4;have H1 : (some false) = some r:=by rw [if_neg (show ¬ (false = true) by decide)] at H;exact H
  clear H;have H:=H1;clear H1;obtain rfl:=Option.some.inj H
  go_enter Try.func83,Try.ntmps83
  try go_wp2_with (first | ((with_reducible refine gate_dst (N:=2) rfl ?_);refine box_event ?hg (N:=2) ?hd (cs:=#[.int .i64 a0_0,.int .i64 a0_1]) (t:=37) ?hr ?_;(case hd => rfl);(case hg => rfl);(case hr => exact qq312);intro gb140 hg w12 hbox hb;have BK140:=am (hbox);have GW140:=am qq433;have GE140:=am qq433;replace HB:=am qq488;clear hb hbox hg))
  replace BK140:=am (blk_drew BK140.out);replace HB:=am qq519;refine start_ (n:=14) (S:=fun w' => w'.cell? ⟨gb140,0,none⟩ = some (.int .i64 a0_0) ∧ w'.cell? ⟨gb140,1,none⟩ = some (.int .i64 a0_1)) (ds:=[]) #[Z,Z,Z,Z,Z,Z,Z,Z,Z,Z,Z,Z,Z,Z] (by kernel_rfl) rfl rfl ⟨(blk_cell BK140.out 0).trans rfl,(blk_cell BK140.out 1).trans rfl⟩ (fun hHeld => ?_);refine with_tabW impl_MayStorm.tab1 impl_MayStorm.bits1 (fun HT_ HW_ => ?_)
  generalize w12.drew = w13 at BK140 HB hHeld ⊢
  refine tV2 (i:=0) (N:=some 5) #[Y,Z,Z,Z,Z,Z,Z,Z,Z,Z,Z,Z,Z,Z] rfl rfl (take_ofW HT_.out HW_.out (by kernel_rfl)) hHeld ?_
  refine one_ (i:=1) (N:=some 6) #[Y,Y,Z,Z,Z,Z,Z,Z,Z,Z,Z,Z,Z,Z] rfl rfl (one_of HT_.out (by kernel_rfl)) (by decide) (fun K hK => ?_);refine goes_ Try.func26 (by kernel_rfl) rfl #[.agg #[.int .i64 a0_0,.int .i64 a0_1]] (by rfl) rfl rfl qq187 ?_;with_reducible refine (impl_IsRule.calls a0_0 a0_1 false _ A3.out).mono ?_
  rintro e w14 ⟨rfl,hb⟩
  refine ⟨_,rfl,?_⟩;replace BK140:=am qq405;replace HB:=am (below_step qq184 hb);(try clear hb);(try clear hb2);(try clear hk);(try clear hi);refine hK.out _ _ ⟨(blk_cell BK140.out 0).trans rfl,(blk_cell BK140.out 1).trans rfl⟩ (fun hHeld => ?_);clear hK K;refine norm_ (a':=?_) ?_ ?_;rotate_left
  ·show Act.put _ (some 6) _ = _
   simp only [Act.put,sA,s0,s1,i64_w,i32_w];rfl
  refine pV (i:=2) (N:=some 7) #[Y,Y,Y,Z,Z,Z,Z,Z,Z,Z,Z,Z,Z,Z] rfl rfl qT ?_
  refine pW (i:=3) (N:=some 8) #[Y,Y,Y,Y,Z,Z,Z,Z,Z,Z,Z,Z,Z,Z] rfl rfl qT ?_
  refine pW (i:=4) (N:=some 9) #[Y,Y,Y,Y,Y,Z,Z,Z,Z,Z,Z,Z,Z,Z] rfl rfl qT ?_
  refine pW (i:=5) (N:=some 10) #[Y,Y,Y,Y,Y,Y,Z,Z,Z,Z,Z,Z,Z,Z] rfl rfl qT ?_
  refine pW (i:=6) (N:=some 11) #[Y,Y,Y,Y,Y,Y,Y,Z,Z,Z,Z,Z,Z,Z] rfl rfl qT ?_
  refine pW (i:=7) (N:=some 12) #[Y,Y,Y,Y,Y,Y,Y,Y,Z,Z,Z,Z,Z,Z] rfl rfl qT ?_
  refine pW (i:=8) (N:=some 13) #[Y,Y,Y,Y,Y,Y,Y,Y,Y,Z,Z,Z,Z,Z] rfl rfl qT ?_
  refine pW (i:=9) (N:=some 14) #[Y,Y,Y,Y,Y,Y,Y,Y,Y,Y,Z,Z,Z,Z] rfl rfl qT ?_
  refine pW (i:=10) (N:=some 15) #[Y,Y,Y,Y,Y,Y,Y,Y,Y,Y,Y,Z,Z,Z] rfl rfl qT ?_
  refine pW (i:=11) (N:=some 16) #[Y,Y,Y,Y,Y,Y,Y,Y,Y,Y,Y,Y,Z,Z] rfl rfl qT ?_
  refine pV (i:=12) (N:=some 17) #[Y,Y,Y,Y,Y,Y,Y,Y,Y,Y,Y,Y,Y,Z] rfl rfl qT ?_
  refine pV (i:=13) (N:=some 4) #[Y,Y,Y,Y,Y,Y,Y,Y,Y,Y,Y,Y,Y,Y] rfl rfl qT ?_
  refine done_ (done_of HT_.out (by kernel_rfl)) ?_
  try go_wp2
  go_ret
  exact ⟨qq263,qq184⟩

end Go.Proofs.Ytcbkknpmeknppaa.PFnExactPlanFood
