/- Contracts of functions that the law FnExactMoveTo reaches, for its row: lines that the kit's printer wrote for this claim, set shorter by a program of this session (own.py), and what fell in Lean proved anew. Lean checks them. -/
import Derived.Test.YtnghncedinngoaaSFnExactMoveTox0
namespace Go.Proofs.Ytnghncedinngoaa.PFnExactMoveTo
open Go.RowKit Go.Proofs.YtnghncedinngoaaW.PrintWords Go.Proofs.YtnghncedinngoaaW.PrintLast Go.Proofs.YtnghncedinngoaaW.PrintMore
attribute [local go_sem] max2_int min2_int max_two min_two max_three min_three max_four min_four   -- for this text's walks alone
set_option linter.unusedVariables false
set_option linter.unusedSimpArgs false

/-! ### laws_szIntS: function 45 -/
def laws_szIntS.f (l0 : List Int) (a1 : Int) : Option (Int) := if (wrap64 (a1 - (l0.length : Int))) < 0 then (some (-1)) else (some (wrap64 (a1 - (l0.length : Int))))
set_option maxHeartbeats 8000000 in
set_option maxRecDepth 100000 in
theorem laws_szIntS.calls (A0 : Option Addr) (c0 : Nat) (l0 : List Int) (a1 : Int) (r : Int) (w : World) (hr0 : Kd.C (Kd.int .i64) w A0 l0.length l0) (hc0 : l0.length ≤ c0) (h : laws_szIntS.f l0 a1 = some r) :
  Calls Try.prog 45 #[.slice A0 l0.length c0,.int .i64 a1] w fun e w' => e = .returned (.int .i64 r) ∧ Drawn0 w w':=by
 have HR0:=am hr0;have HC0:=am hc0;clear hr0 hc0;have H : (if (wrap64 (a1 - (l0.length : Int))) < 0 then (some (-1)) else (some (wrap64 (a1 - (l0.length : Int))))) = some r:=h;clear h
 by_cases c3 : (wrap64 (a1 - (l0.length : Int))) < 0
 ·rw [if_pos c3] at H;have c3b0 : decide ((wrap64 (a1 - (l0.length : Int))) < 0) = true:=decide_eq_true c3;clear c3;obtain rfl:=Option.some.inj H
  go_enter Try.func45,Try.ntmps45
  go_wp2
  go_ret
  exact ⟨qq105,qq101⟩
 ·rw [if_neg c3] at H;have c3b0 : decide ((wrap64 (a1 - (l0.length : Int))) < 0) = false:=decide_eq_false c3;clear c3;obtain rfl:=Option.some.inj H
  go_enter Try.func45,Try.ntmps45
  go_wp2
  go_ret
  exact ⟨qq105,qq101⟩

/-! ### laws_szTent: function 25 -/
def laws_szTent.f (a0_0 : Int) (a0_1 : Int) (l0_2 : List Int) (a1 : Int) : Option (Int) := (laws_szIntS.f l0_2 a1).bind fun t102 => (if t102 < 0 then (some (-1)) else (some t102))
set_option maxHeartbeats 8000000 in
set_option maxRecDepth 100000 in
theorem laws_szTent.calls (a0_0 : Int) (a0_1 : Int) (A0_2 : Option Addr) (c0_2 : Nat) (l0_2 : List Int) (a1 : Int) (r : Int) (w : World) (hr0_2 : Kd.C (Kd.int .i64) w A0_2 l0_2.length l0_2) (hc0_2 : l0_2.length ≤ c0_2) (h : laws_szTent.f a0_0 a0_1 l0_2 a1 = some r) :
  Calls Try.prog 25 #[.agg #[.int .i64 a0_0,.int .i64 a0_1,.slice A0_2 l0_2.length c0_2],.int .i64 a1] w fun e w' => e = .returned (.int .i64 r) ∧ Below w.heap.size w w':=by
 have hu53:=Try.underlying53;have HR0_2:=am hr0_2;have HC0_2:=am hc0_2;clear hr0_2 hc0_2;have HB:=am qq149;have H : ((laws_szIntS.f l0_2 a1).bind fun t102 => (if t102 < 0 then (some (-1)) else (some t102))) = some r:=h;clear h;replace H:=bS.mp H;obtain ⟨t102,A30,H⟩:=H;replace H : (if t102 < 0 then (some (-1)) else (some t102)) = some r:=H;have A3:=am A30;clear A30
 by_cases c4 : t102 < 0
 ·rw [if_pos c4] at H;have c4b0 : decide (t102 < 0) = true:=decide_eq_true c4;clear c4;obtain rfl:=Option.some.inj H
  go_enter Try.func25,Try.ntmps25
  go_wp2_with (first | ((with_reducible refine gate_dst (N:=2) rfl ?_);refine box_event ?hg (N:=2) ?hd (cs:=#[.int .i64 a0_0,.int .i64 a0_1,.slice A0_2 l0_2.length c0_2]) (t:=53) ?hr ?_;(case hd => rfl);(case hg => rfl);(case hr => exact qq110);intro gb101 hg w5 hbox hb;have BK101:=am (hbox);have GW101:=am qq145;have GE101:=am qq145;replace HB:=am qq153;clear hb hbox hg;obtain ⟨hcz6_0,hcz6_1,hcz6_2,hfz6_0,hfz6_1,hfz6_2⟩:=bcl3 BK101.out) | ((with_reducible refine gate_callee (f:=45) rfl ?_);refine goesL_ (some 8) rfl rfl Try.func45 (by kernel_rfl) rfl #[.slice A0_2 l0_2.length c0_2,.int .i64 a1] rfl qq48 ?_;(with_reducible refine (laws_szIntS.calls _ _ l0_2 a1 t102 _ ?side1 ?side2 A3.out).mono ?_);(case side1 => exact qq31);(case side2 => exact HC0_2.out);rintro e w' ⟨rfl,⟨nd,rfl⟩⟩;refine ⟨_,rfl,?_⟩))
  go_ret
  exact ⟨qq93,qq47⟩
 ·rw [if_neg c4] at H;have c4b0 : decide (t102 < 0) = false:=decide_eq_false c4;clear c4;obtain rfl:=Option.some.inj H
  go_enter Try.func25,Try.ntmps25
  go_wp2_with (first | ((with_reducible refine gate_dst (N:=2) rfl ?_);refine box_event ?hg (N:=2) ?hd (cs:=#[.int .i64 a0_0,.int .i64 a0_1,.slice A0_2 l0_2.length c0_2]) (t:=53) ?hr ?_;(case hd => rfl);(case hg => rfl);(case hr => exact qq110);intro gb101 hg w7 hbox hb;have BK101:=am (hbox);have GW101:=am qq145;have GE101:=am qq145;replace HB:=am qq153;clear hb hbox hg;obtain ⟨hcz8_0,hcz8_1,hcz8_2,hfz8_0,hfz8_1,hfz8_2⟩:=bcl3 BK101.out) | ((with_reducible refine gate_callee (f:=45) rfl ?_);refine goesL_ (some 8) rfl rfl Try.func45 (by kernel_rfl) rfl #[.slice A0_2 l0_2.length c0_2,.int .i64 a1] rfl qq48 ?_;(with_reducible refine (laws_szIntS.calls _ _ l0_2 a1 t102 _ ?side1 ?side2 A3.out).mono ?_);(case side1 => exact qq31);(case side2 => exact HC0_2.out);rintro e w' ⟨rfl,⟨nd,rfl⟩⟩;refine ⟨_,rfl,?_⟩))
  go_ret
  exact ⟨qq93,qq47⟩

/-! ### laws_szTentS: function 6 -/
def laws_szTentS.l0 : Nat → List (S53) → Int → Int → Option (Int)
 | 0,_,_,_ => none
 | k + 1,x0,x1,x5 => if x5 < (x0.length : Int) then (if 0 ≤ x5 then ((laws_szTent.f ((rd_T53 x0 x5).f0) ((rd_T53 x0 x5).f1) ((rd_T53 x0 x5).f2) x1).bind fun t104 => (if t104 < 0 then (some (-1)) else (laws_szTentS.l0 k x0 t104 (wrap64 (x5 + 1))))) else (none)) else (some x1)
def laws_szTentS.f (k : Nat) (l0 : List (S53)) (a1 : Int) : Option (Int) := if (wrap64 (a1 - (l0.length : Int))) < 0 then (some (-1)) else (laws_szTentS.l0 k l0 (wrap64 (a1 - (l0.length : Int))) 0)
theorem laws_szTentS.mono_l : ∀ k, (∀ y0 y1 y2, LeO (laws_szTentS.l0 k y0 y1 y2) (laws_szTentS.l0 (k + 1) y0 y1 y2))
 | 0 => fun _ _ _ r h => by simp [laws_szTentS.l0] at h
 | k + 1 => by
  have ih0:=laws_szTentS.mono_l k
  ·intro y0 y1 y2
   unfold laws_szTentS.l0
   repeat' first
   | (with_reducible exact ih0 _ _ _)
   | (with_reducible exact LeO.refl _)
   | (with_reducible exact LeO.none _)
   | (with_reducible refine LeO.ite ?_ ?_)
   | (with_reducible refine LeO.bind ?_ (fun _ => ?_))
   | exact ih0 _ _ _
   | exact LeO.none _
   | refine LeO.ite ?_ ?_
   | refine LeO.bind ?_ (fun _ => ?_)
theorem laws_szTentS.mono : ∀ a0 a1 k, LeO (laws_szTentS.f k a0 a1) (laws_szTentS.f (k + 1) a0 a1) := by
 intro a0 a1 k
 have ih0:=laws_szTentS.mono_l k
 unfold laws_szTentS.f
 repeat' first
   | (with_reducible exact ih0 _ _ _)
   | (with_reducible exact LeO.refl _)
   | (with_reducible exact LeO.none _)
   | (with_reducible refine LeO.ite ?_ ?_)
   | (with_reducible refine LeO.bind ?_ (fun _ => ?_))
   | exact ih0 _ _ _
   | exact LeO.none _
   | refine LeO.ite ?_ ?_
   | refine LeO.bind ?_ (fun _ => ?_)
set_option maxHeartbeats 8000000 in
set_option maxRecDepth 100000 in
theorem laws_szTentS.calls (k : Nat) (A0 : Option Addr) (c0 : Nat) (l0 : List (S53)) (a1 : Int) (r : Int) (w : World) (hr0 : Kd.C k53 w A0 l0.length l0) (hc0 : l0.length ≤ c0) (h : laws_szTentS.f k l0 a1 = some r) :
  Calls Try.prog 6 #[.slice A0 l0.length c0,.int .i64 a1] w fun e w' => e = .returned (.int .i64 r) ∧ Below w.heap.size w w':=by
 have hu53:=Try.underlying53;have HR0:=am hr0;have HC0:=am hc0;clear hr0 hc0;have HB:=am qq149;have H : (if (wrap64 (a1 - (l0.length : Int))) < 0 then (some (-1)) else (laws_szTentS.l0 k l0 (wrap64 (a1 - (l0.length : Int))) 0)) = some r:=h;clear h
 by_cases c3 : (wrap64 (a1 - (l0.length : Int))) < 0
 ·rw [if_pos c3] at H;have c3b0 : decide ((wrap64 (a1 - (l0.length : Int))) < 0) = true:=decide_eq_true c3;clear c3;obtain rfl:=Option.some.inj H
  go_enter Try.func6,Try.ntmps6
  go_wp2
  go_ret
  exact ⟨qq93,qq80⟩
 ·rw [if_neg c3] at H;have c3b0 : decide ((wrap64 (a1 - (l0.length : Int))) < 0) = false:=decide_eq_false c3;clear c3;have H':=am H;clear H
  go_enter Try.func6,Try.ntmps6
  go_wp2
  go_loopg [1,5] k (fun kq v1 v5 w' => ∃ (x1_1 : Int) (x5_1 : Int),v1 = .int .i64 x1_1 ∧ v5 = .int .i64 x5_1 ∧ Aside0 (laws_szTentS.l0 kq l0 x1_1 x5_1 = some r) ∧ Aside0 (kq ≤ k) ∧ Aside0 (Below w.heap.size w w'))
  case atStart => exact ⟨(wrap64 (a1 - (l0.length : Int))),(0),qq105,qq105,H',⟨Nat.le_refl _⟩,⟨qq80⟩⟩
  case round =>
   clear H'
   try clear p2
   try clear c3
   try clear c3b0
   obtain ⟨x1_1,x5_1,rfl,rfl,HA,HK1,HB⟩:=hrel
   cases gk with
   | zero => exact absurd HA.out (by simp [laws_szTentS.l0])
   | succ k1 =>
    have H:=HA.out;clear HA;simp only [laws_szTentS.l0] at H
    by_cases c4 : x5_1 < (l0.length : Int)
    ·rw [if_pos c4] at H;have c4b0 : decide (x5_1 < (l0.length : Int)) = true:=decide_eq_true c4;clear c4
     by_cases c5 : 0 ≤ x5_1
     ·rw [if_pos c5] at H;have c5b0 : decide (0 ≤ x5_1) = true:=decide_eq_true c5;clear c5;replace H:=bS.mp H;obtain ⟨t104,A60,H⟩:=H;replace H : (if t104 < 0 then (some (-1)) else (laws_szTentS.l0 k1 l0 t104 (wrap64 (x5_1 + 1)))) = some r:=H;have A6:=am A60;clear A60
      by_cases c7 : t104 < 0
      ·rw [if_pos c7] at H;have c7b0 : decide (t104 < 0) = true:=decide_eq_true c7;clear c7;obtain rfl:=Option.some.inj H;have p103 : 0 ≤ (x5_1 : Int):=odt qq103;have q103 : x5_1 < (l0.length : Int):=odt qq103;obtain ⟨ad103,A103_2,c103_2,e103,hx103_0,hx103_1,hx103_2,hl103_2,hi103_2⟩:=at_T53 HR0.out x5_1 p103 q103
       cases e103
       replace hx103_0:=(ct HB.out hx103_0 :)
       replace hx103_1:=(ct HB.out hx103_1 :)
       replace hx103_2:=(ct HB.out hx103_2 :)
       have HR103_2:=am hi103_2;have HC103_2:=am hl103_2;clear hi103_2 hl103_2;replace p103:=eq_true p103;replace q103:=eq_true q103;go_wp2_with (first | ((with_reducible refine gate_callee (f:=25) rfl ?_);refine goesL_ (some 23) rfl rfl Try.func25 (by kernel_rfl) rfl #[.agg #[.int .i64 ((rd_T53 l0 x5_1).f0),.int .i64 ((rd_T53 l0 x5_1).f1),.slice A103_2 ((rd_T53 l0 x5_1).f2).length c103_2],.int .i64 x1_1] rfl qq48 ?_;(with_reducible refine (laws_szTent.calls ((rd_T53 l0 x5_1).f0) ((rd_T53 l0 x5_1).f1) _ _ ((rd_T53 l0 x5_1).f2) x1_1 t104 _ ?side1 ?side2 A6.out).mono ?_);(case side1 => exact qq28);(case side2 => exact HC103_2.out);rintro e w8 ⟨rfl,hb⟩;refine ⟨_,rfl,?_⟩;replace HB:=am qq153;(try clear hb);(try clear hb2);(try clear hk);(try clear hi)))
       go_ret
       exact ⟨qq93,qq80⟩
      ·rw [if_neg c7] at H;have c7b0 : decide (t104 < 0) = false:=decide_eq_false c7;clear c7;have H':=am H;clear H;have p103 : 0 ≤ (x5_1 : Int):=odt qq103;have q103 : x5_1 < (l0.length : Int):=odt qq103;obtain ⟨ad103,A103_2,c103_2,e103,hx103_0,hx103_1,hx103_2,hl103_2,hi103_2⟩:=at_T53 HR0.out x5_1 p103 q103
       cases e103
       replace hx103_0:=(ct HB.out hx103_0 :)
       replace hx103_1:=(ct HB.out hx103_1 :)
       replace hx103_2:=(ct HB.out hx103_2 :)
       have HR103_2:=am hi103_2;have HC103_2:=am hl103_2;clear hi103_2 hl103_2;replace p103:=eq_true p103;replace q103:=eq_true q103;go_wp2_with (first | ((with_reducible refine gate_callee (f:=25) rfl ?_);refine goesL_ (some 23) rfl rfl Try.func25 (by kernel_rfl) rfl #[.agg #[.int .i64 ((rd_T53 l0 x5_1).f0),.int .i64 ((rd_T53 l0 x5_1).f1),.slice A103_2 ((rd_T53 l0 x5_1).f2).length c103_2],.int .i64 x1_1] rfl qq48 ?_;(with_reducible refine (laws_szTent.calls ((rd_T53 l0 x5_1).f0) ((rd_T53 l0 x5_1).f1) _ _ ((rd_T53 l0 x5_1).f2) x1_1 t104 _ ?side1 ?side2 A6.out).mono ?_);(case side1 => exact qq28);(case side2 => exact HC103_2.out);rintro e w9 ⟨rfl,hb⟩;refine ⟨_,rfl,?_⟩;replace HB:=am qq153;(try clear hb);(try clear hb2);(try clear hk);(try clear hi)))
       go_roundg k1
       case measure => have:=HK1.out;omega
       case rel => exact ⟨(t104),(wrap64 (x5_1 + 1)),qq105,qq105,H',⟨qq118⟩,⟨qq80⟩⟩
     ·rw [if_neg c5] at H;exact absurd H (by simp)
    ·rw [if_neg c4] at H;have c4b0 : decide (x5_1 < (l0.length : Int)) = false:=decide_eq_false c4;clear c4;obtain rfl:=Option.some.inj H;go_wp2
     go_ret
     exact ⟨qq93,qq80⟩

/-! ### spec_l23Copy: function 26 -/
def spec_l23Copy.l0 : Nat → List (S45) → List (S45) → Int → Option ((List (S45)))
 | 0,_,_,_ => none
 | k + 1,x0,x3,x4 => if x4 < (x0.length : Int) then (if 0 ≤ x4 then ((some (([] : List Int) : List Int)).bind fun y110 => (if y110.length + ((rd_T45 x0 x4).f2).length < 17592186044416 then (if x3.length < 3518437208883 then (spec_l23Copy.l0 k x0 (x3 ++ [(⟨(rd_T45 x0 x4).f0,(rd_T45 x0 x4).f1,(y110 ++ ((rd_T45 x0 x4).f2))⟩ : S45)]) (wrap64 (x4 + 1))) else (none)) else (none))) else (none)) else (some x3)
def spec_l23Copy.f (k : Nat) (l0 : List (S45)) : Option ((List (S45))) := spec_l23Copy.l0 k l0 (([] : List (S45))) 0
theorem spec_l23Copy.mono_l : ∀ k, (∀ y0 y1 y2, LeO (spec_l23Copy.l0 k y0 y1 y2) (spec_l23Copy.l0 (k + 1) y0 y1 y2))
 | 0 => fun _ _ _ r h => by simp [spec_l23Copy.l0] at h
 | k + 1 => by
  have ih0:=spec_l23Copy.mono_l k
  ·intro y0 y1 y2
   unfold spec_l23Copy.l0
   repeat' first
   | (with_reducible exact ih0 _ _ _)
   | (with_reducible exact LeO.refl _)
   | (with_reducible exact LeO.none _)
   | (with_reducible refine LeO.ite ?_ ?_)
   | (with_reducible refine LeO.bind ?_ (fun _ => ?_))
   | exact ih0 _ _ _
   | exact LeO.none _
   | refine LeO.ite ?_ ?_
   | refine LeO.bind ?_ (fun _ => ?_)
theorem spec_l23Copy.mono : ∀ a0 k, LeO (spec_l23Copy.f k a0) (spec_l23Copy.f (k + 1) a0) := by
 intro a0 k
 have ih0:=spec_l23Copy.mono_l k
 unfold spec_l23Copy.f
 repeat' first
   | (with_reducible exact ih0 _ _ _)
   | (with_reducible exact LeO.refl _)
   | (with_reducible exact LeO.none _)
   | (with_reducible refine LeO.ite ?_ ?_)
   | (with_reducible refine LeO.bind ?_ (fun _ => ?_))
   | exact ih0 _ _ _
   | exact LeO.none _
   | refine LeO.ite ?_ ?_
   | refine LeO.bind ?_ (fun _ => ?_)
def spec_l23Copy.T5 : Bool × List (List Nat × List Nat) := (true, [([], []), ([], []), ([], []), ([1, 2], [1, 2]), ([3], [3]), ([4], [4]), ([], []), ([], []), ([6, 7], [6, 7]), ([8], [8]), ([9], [9]), ([], []), ([], []), ([], []), ([12, 13], [12, 13]), ([14], [14]), ([15], [15]), ([11, 16], [11, 16]), ([5, 10, 17], [5, 10, 17]), ([18], [18]), ([0, 19, 17], [0, 19]), ([20, 20, 0, 1, 2, 3, 4, 5, 6, 7, 8, 9, 10, 11, 12, 13, 14, 15, 16, 17, 18, 19, 20], [0, 20])])
def spec_l23Copy.B5 : List Nat := [0, 0, 0, 6, 14, 30, 0, 0, 192, 448, 960, 0, 0, 0, 12288, 28672, 61440, 129024, 262142, 524286, 1048575, 2097151]
theorem spec_l23Copy.tab5 : rtab .any (opsOf Try.f26 5) = spec_l23Copy.T5 := by kernel_rfl
theorem spec_l23Copy.bits5 : waitsOk spec_l23Copy.T5.2 spec_l23Copy.B5 = true := by kernel_rfl
set_option maxHeartbeats 8000000 in
set_option maxRecDepth 100000 in
theorem spec_l23Copy.calls (k : Nat) (A0 : Option Addr) (c0 : Nat) (l0 : List (S45)) (r : List (S45)) (w : World) (hr0 : Kd.C k45 w A0 l0.length l0) (hc0 : l0.length ≤ c0) (h : spec_l23Copy.f k l0 = some r) :
  Calls Try.prog 26 #[.slice A0 l0.length c0] w fun e w' => ∃ v0_ : Value,e = .returned (v0_) ∧ Kd.S k45 45 w' w.heap.size (fun _ => True) v0_ r ∧ Below w.heap.size w w':=by
 have hu45:=Try.underlying45;have HR0:=am hr0;have HC0:=am hc0;clear hr0 hc0;have HB:=am qq149;have H : (spec_l23Copy.l0 k l0 (([] : List (S45))) 0) = some r:=h;clear h;obtain ⟨y105,hy105⟩ : ∃ y_ : List (S45),y_ = (([] : List (S45))):=⟨_,rfl⟩
 replace H : (spec_l23Copy.l0 k l0 y105 0) = some r:=by first | (rw [hy105];with_reducible exact H) | (have H2_:=(Option.bind_some _ _).symm.trans H;rw [hy105];with_reducible exact H2_) | (have H2_:=(Option.bind_some _ _).symm.trans H;with_reducible exact H2_) | with_reducible exact H | (rw [hy105];exact H) | exact H
 have Ny105:=am hy105;clear hy105;have H':=am H;clear H
 go_enter Try.func26,Try.ntmps26
 go_wp2_with (first | ((with_reducible refine gate_dst (N:=5) rfl ?_);refine Kd.S_lit k45 _ 45 ?hg (N:=5) ?hd (xs:=([] : List (S45))) (inner:=[]) (ok:=fun _ => True) (okp:=fun _ => True) ?hr ?hp (fun _ hk => hk) trivial (Below.refl _ _) (Nat.le_refl _) (by simp) ?_;(case hd => rfl);(case hg => rfl);(case hr => exact qq110);(case hp => exact qq117);intro v106 w2 ho3 hb hg_ hnew_;clear hg_ hnew_;(first | rw [← Ny105.out] at ho3 | (simp only [Int.reduceToNat] at ho3;rw [← Ny105.out] at ho3));have HO107:=am (Kd.S_lower ho3 (below_size qq80));replace HB:=am qq153;clear hb ho3))
 go_loopg [3,4] k (fun kq v3 v4 w' => ∃ (x3_1 : List (S45)) (x4_1 : Int),v4 = .int .i64 x4_1 ∧ Aside0 (spec_l23Copy.l0 kq l0 x3_1 x4_1 = some r) ∧ Aside0 (kq ≤ k) ∧ Aside0 (Kd.S k45 45 w' w.heap.size (fun _ => True) v3 x3_1) ∧ Aside0 (Below w.heap.size w w'))
 case atStart => exact ⟨(y105),(0),qq105,H',⟨Nat.le_refl _⟩,⟨by (with_reducible repeat (first | apply Kd.S_alloc | apply Kd.S_drewN | apply Kd.S_drew));exact HO107.out⟩,⟨qq80⟩⟩
 case round =>
  clear H'
  try clear c2
  try clear p2
  obtain ⟨x3_1,x4_1,rfl,HA,HK1,HO_3,HB⟩:=hrel
  cases gk with
  | zero => exact absurd HA.out (by simp [spec_l23Copy.l0])
  | succ k1 =>
   have H:=HA.out;clear HA;simp only [spec_l23Copy.l0] at H
   by_cases c4 : x4_1 < (l0.length : Int)
   ·rw [if_pos c4] at H;have c4b0 : decide (x4_1 < (l0.length : Int)) = true:=decide_eq_true c4;clear c4
    by_cases c5 : 0 ≤ x4_1
    ·rw [if_pos c5] at H;have c5b0 : decide (0 ≤ x4_1) = true:=decide_eq_true c5;clear c5;obtain ⟨y110,hy110⟩ : ∃ y_ : List Int,y_ = (([] : List Int)):=⟨_,rfl⟩
     replace H : (if y110.length + ((rd_T45 l0 x4_1).f2).length < 17592186044416 then (if x3_1.length < 3518437208883 then (spec_l23Copy.l0 k1 l0 (x3_1 ++ [(⟨(rd_T45 l0 x4_1).f0,(rd_T45 l0 x4_1).f1,(y110 ++ ((rd_T45 l0 x4_1).f2))⟩ : S45)]) (wrap64 (x4_1 + 1))) else (none)) else (none)) = some r:=by first | (rw [hy110];with_reducible exact H) | (have H2_:=(Option.bind_some _ _).symm.trans H;rw [hy110];with_reducible exact H2_) | (have H2_:=(Option.bind_some _ _).symm.trans H;with_reducible exact H2_) | with_reducible exact H | (rw [hy110];exact H) | exact H
     have Ny110:=am hy110;clear hy110
     by_cases c6 : y110.length + ((rd_T45 l0 x4_1).f2).length < 17592186044416
     ·rw [if_pos c6] at H;have LMc6:=am c6;clear c6;obtain ⟨y114,hy114⟩ : ∃ y_ : List Int,y_ = (y110 ++ ((rd_T45 l0 x4_1).f2)):=⟨_,rfl⟩
      replace H : (if x3_1.length < 3518437208883 then (spec_l23Copy.l0 k1 l0 (x3_1 ++ [(⟨(rd_T45 l0 x4_1).f0,(rd_T45 l0 x4_1).f1,y114⟩ : S45)]) (wrap64 (x4_1 + 1))) else (none)) = some r:=by first | (rw [hy114];with_reducible exact H) | (have H2_:=(Option.bind_some _ _).symm.trans H;rw [hy114];with_reducible exact H2_) | (have H2_:=(Option.bind_some _ _).symm.trans H;with_reducible exact H2_) | with_reducible exact H | (rw [hy114];exact H) | exact H
      have Ny114:=am hy114;clear hy114
      by_cases c7 : x3_1.length < 3518437208883
      ·rw [if_pos c7] at H;have LMc7:=am c7;clear c7;obtain ⟨y117,hy117⟩ : ∃ y_ : List (S45),y_ = (x3_1 ++ [(⟨(rd_T45 l0 x4_1).f0,(rd_T45 l0 x4_1).f1,y114⟩ : S45)]):=⟨_,rfl⟩
       replace H : (spec_l23Copy.l0 k1 l0 y117 (wrap64 (x4_1 + 1))) = some r:=by first | (rw [hy117];with_reducible exact H) | (have H2_:=(Option.bind_some _ _).symm.trans H;rw [hy117];with_reducible exact H2_) | (have H2_:=(Option.bind_some _ _).symm.trans H;with_reducible exact H2_) | with_reducible exact H | (rw [hy117];exact H) | exact H
       have Ny117:=am hy117;clear hy117;have H':=am H;clear H
       try go_wp2
       replace HO_3:=am (Kd.S_drew HO_3.out);replace HB:=am qq154;have p108 : 0 ≤ (x4_1 : Int):=odt qq103;have q108 : x4_1 < (l0.length : Int):=odt qq103;obtain ⟨ad108,A108_2,c108_2,e108,hx108_0,hx108_1,hx108_2,hl108_2,hi108_2⟩:=at_T45 HR0.out x4_1 p108 q108;have hw108_2:=hx108_2;have hw108_1:=hx108_1;have hw108_0:=hx108_0
       cases e108
       replace hx108_0:=(ct HB.out hx108_0 :)
       replace hx108_1:=(ct HB.out hx108_1 :)
       replace hx108_2:=(ct HB.out hx108_2 :)
       have HR108_2:=am hi108_2;have HC108_2:=am hl108_2;clear hi108_2 hl108_2;replace p108:=eq_true p108;replace q108:=eq_true q108;have p109 : 0 ≤ (x4_1 : Int):=odt qq103;have q109 : x4_1 < (l0.length : Int):=odt qq103;obtain ⟨ad109,A109_2,c109_2,e109,hx109_0,hx109_1,hx109_2,hl109_2,hi109_2⟩:=at_T45 HR0.out x4_1 p109 q109;have hw109_2:=hx109_2;have hw109_1:=hx109_1;have hw109_0:=hx109_0;obtain rfl : ad108 = ad109:=(by injection e109)
       replace hx109_0:=(ct HB.out hx109_0 :)
       replace hx109_1:=(ct HB.out hx109_1 :)
       replace hx109_2:=(ct HB.out hx109_2 :)
       have HR109_2:=am hi109_2;have HC109_2:=am hl109_2;clear hi109_2 hl109_2;replace p109:=eq_true p109;replace q109:=eq_true q109;have ea_:=Option.some.inj (hx108_2.symm.trans hx109_2)
       injection ea_ with ea_ en_ ec_
       subst ea_;subst ec_;clear en_;have p113 : 0 ≤ (x4_1 : Int):=odt qq103;have q113 : x4_1 < (l0.length : Int):=odt qq103;obtain ⟨ad113,A113_2,c113_2,e113,hx113_0,hx113_1,hx113_2,hl113_2,hi113_2⟩:=at_T45 HR0.out x4_1 p113 q113;have hw113_2:=hx113_2;have hw113_1:=hx113_1;have hw113_0:=hx113_0;obtain rfl : ad108 = ad113:=(by injection e113)
       replace hx113_0:=(ct HB.out hx113_0 :)
       replace hx113_1:=(ct HB.out hx113_1 :)
       replace hx113_2:=(ct HB.out hx113_2 :)
       have HR113_2:=am hi113_2;have HC113_2:=am hl113_2;clear hi113_2 hl113_2;replace p113:=eq_true p113;replace q113:=eq_true q113;have ea_:=Option.some.inj (hx108_2.symm.trans hx113_2)
       injection ea_ with ea_ en_ ec_
       subst ea_;subst ec_;clear en_;refine start_ (n:=22) (S:=fun w' => w'.cell? (ad108.add ((x4_1).toNat * 3)) = some (.int .i64 ((rd_T45 l0 x4_1).f0)) ∧ w'.cell? ⟨(ad108.add ((x4_1).toNat * 3)).block,(ad108.add ((x4_1).toNat * 3)).off + 1,none⟩ = some (.int .i64 ((rd_T45 l0 x4_1).f1)) ∧ w'.cell? ⟨(ad108.add ((x4_1).toNat * 3)).block,(ad108.add ((x4_1).toNat * 3)).off + 2,none⟩ = some (.slice A108_2 ((rd_T45 l0 x4_1).f2).length c108_2) ∧ w'.cell? (ad108.add ((x4_1).toNat * 3)) = some (.int .i64 ((rd_T45 l0 x4_1).f0)) ∧ w'.cell? ⟨(ad108.add ((x4_1).toNat * 3)).block,(ad108.add ((x4_1).toNat * 3)).off + 1,none⟩ = some (.int .i64 ((rd_T45 l0 x4_1).f1)) ∧ w'.cell? ⟨(ad108.add ((x4_1).toNat * 3)).block,(ad108.add ((x4_1).toNat * 3)).off + 2,none⟩ = some (.slice A108_2 ((rd_T45 l0 x4_1).f2).length c108_2) ∧ w'.cell? (ad108.add ((x4_1).toNat * 3)) = some (.int .i64 ((rd_T45 l0 x4_1).f0)) ∧ w'.cell? ⟨(ad108.add ((x4_1).toNat * 3)).block,(ad108.add ((x4_1).toNat * 3)).off + 1,none⟩ = some (.int .i64 ((rd_T45 l0 x4_1).f1)) ∧ w'.cell? ⟨(ad108.add ((x4_1).toNat * 3)).block,(ad108.add ((x4_1).toNat * 3)).off + 2,none⟩ = some (.slice A108_2 ((rd_T45 l0 x4_1).f2).length c108_2)) (ds:=[]) #[Z,Z,Z,Z,Z,Z,Z,Z,Z,Z,Z,Z,Z,Z,Z,Z,Z,Z,Z,Z,Z,Z] (by kernel_rfl) rfl rfl ⟨(ct HB.out hw108_0 :),(ct HB.out hw108_1 :),(ct HB.out hw108_2 :),(ct HB.out hw109_0 :),(ct HB.out hw109_1 :),(ct HB.out hw109_2 :),(ct HB.out hw113_0 :),(ct HB.out hw113_1 :),(ct HB.out hw113_2 :)⟩ (fun hHeld => ?_);refine with_tabW spec_l23Copy.tab5 spec_l23Copy.bits5 (fun HT_ HW_ => ?_)
       generalize wr.drew = w8 at HO_3 HB HR108_2 HR109_2 HR113_2 hx108_0 hx108_1 hx108_2 hx109_0 hx109_1 hx109_2 hx113_0 hx113_1 hx113_2 hHeld ⊢
       refine pV (i:=0) (N:=some 12) #[Y,Z,Z,Z,Z,Z,Z,Z,Z,Z,Z,Z,Z,Z,Z,Z,Z,Z,Z,Z,Z,Z] rfl rfl qT ?_
       refine pV (i:=1) (N:=some 13) #[Y,Y,Z,Z,Z,Z,Z,Z,Z,Z,Z,Z,Z,Z,Z,Z,Z,Z,Z,Z,Z,Z] rfl rfl qT ?_
       refine pV (i:=2) (N:=some 14) #[Y,Y,Y,Z,Z,Z,Z,Z,Z,Z,Z,Z,Z,Z,Z,Z,Z,Z,Z,Z,Z,Z] rfl rfl qT ?_
       refine pV (i:=3) (N:=some 15) #[Y,Y,Y,Y,Z,Z,Z,Z,Z,Z,Z,Z,Z,Z,Z,Z,Z,Z,Z,Z,Z,Z] rfl rfl qT ?_
       refine pV (i:=4) (N:=some 16) #[Y,Y,Y,Y,Y,Z,Z,Z,Z,Z,Z,Z,Z,Z,Z,Z,Z,Z,Z,Z,Z,Z] rfl rfl qT ?_
       refine pV (i:=6) (N:=some 18) #[Y,Y,Y,Y,Y,Z,Y,Z,Z,Z,Z,Z,Z,Z,Z,Z,Z,Z,Z,Z,Z,Z] rfl rfl qT ?_
       refine pV (i:=7) (N:=some 19) #[Y,Y,Y,Y,Y,Z,Y,Y,Z,Z,Z,Z,Z,Z,Z,Z,Z,Z,Z,Z,Z,Z] rfl rfl qT ?_
       refine pV (i:=8) (N:=some 20) #[Y,Y,Y,Y,Y,Z,Y,Y,Y,Z,Z,Z,Z,Z,Z,Z,Z,Z,Z,Z,Z,Z] rfl rfl qT ?_
       refine pV (i:=9) (N:=some 21) #[Y,Y,Y,Y,Y,Z,Y,Y,Y,Y,Z,Z,Z,Z,Z,Z,Z,Z,Z,Z,Z,Z] rfl rfl qT ?_
       refine pV (i:=12) (N:=some 24) #[Y,Y,Y,Y,Y,Z,Y,Y,Y,Y,Z,Z,Y,Z,Z,Z,Z,Z,Z,Z,Z,Z] rfl rfl qT ?_
       refine pV (i:=13) (N:=some 25) #[Y,Y,Y,Y,Y,Z,Y,Y,Y,Y,Z,Z,Y,Y,Z,Z,Z,Z,Z,Z,Z,Z] rfl rfl qT ?_
       refine pV (i:=14) (N:=some 26) #[Y,Y,Y,Y,Y,Z,Y,Y,Y,Y,Z,Z,Y,Y,Y,Z,Z,Z,Z,Z,Z,Z] rfl rfl qT ?_
       refine pV (i:=15) (N:=some 27) #[Y,Y,Y,Y,Y,Z,Y,Y,Y,Y,Z,Z,Y,Y,Y,Y,Z,Z,Z,Z,Z,Z] rfl rfl qT ?_
       refine take_ (i:=5) (N:=some 17) (v:=?_) (a':=?_) #[Y,Y,Y,Y,Y,Y,Y,Y,Y,Y,Z,Z,Y,Y,Y,Y,Z,Z,Z,Z,Z,Z] rfl rfl (take_ofW HT_.out HW_.out (by kernel_rfl)) (fun _ _ _ h => h) (Or.inl ⟨by rfl,?_⟩) hHeld ?_ ?_;rotate_left
       ·rintro w' ⟨s0,s1,s2,s3,s4,s5,s6,s7,s8⟩
        go_simp;with_reducible rfl
       rotate_left
       ·simp only [Act.put,sA,s0,s1,i64_w,i32_w];rfl
       refine take_ (i:=10) (N:=some 22) (v:=?_) (a':=?_) #[Y,Y,Y,Y,Y,Y,Y,Y,Y,Y,Y,Z,Y,Y,Y,Y,Z,Z,Z,Z,Z,Z] rfl rfl (take_ofW HT_.out HW_.out (by kernel_rfl)) (fun _ _ _ h => h) (Or.inl ⟨by rfl,?_⟩) hHeld ?_ ?_;rotate_left
       ·rintro w' ⟨s0,s1,s2,s3,s4,s5,s6,s7,s8⟩
        go_simp;with_reducible rfl
       rotate_left
       ·simp only [Act.put,sA,s0,s1,i64_w,i32_w];rfl
       refine take_ (i:=16) (N:=some 28) (v:=?_) (a':=?_) #[Y,Y,Y,Y,Y,Y,Y,Y,Y,Y,Y,Z,Y,Y,Y,Y,Y,Z,Z,Z,Z,Z] rfl rfl (take_ofW HT_.out HW_.out (by kernel_rfl)) (fun _ _ _ h => h) (Or.inl ⟨by rfl,?_⟩) hHeld ?_ ?_;rotate_left
       ·rintro w' ⟨s0,s1,s2,s3,s4,s5,s6,s7,s8⟩
        go_simp;with_reducible rfl
       rotate_left
       ·simp only [Act.put,sA,s0,s1,i64_w,i32_w];rfl
       refine one_ (i:=11) (N:=some 23) #[Y,Y,Y,Y,Y,Y,Y,Y,Y,Y,Y,Y,Y,Y,Y,Y,Y,Z,Z,Z,Z,Z] rfl rfl (one_of HT_.out (by kernel_rfl)) (by decide) (fun K hK => ?_);refine Kd.R_lit_step (Kd.int .i64) _ 3 ?hg (N:=23) ?hd (xs:=([] : List Int)) (inner:=[]) (ok:=fun _ => True) (okp:=fun _ => True) ?hr ?hp (fun _ hk => hk) trivial (Below.refl _ _) (Nat.le_refl _) (by simp) ?_;(case hd => rfl);(case hg => rfl);(case hr => exact qq110);(case hp => exact qq117);intro v111 w9 ho10 hb hg_ hnew_;clear hg_ hnew_;(first | rw [← Ny110.out] at ho10 | (simp only [Int.reduceToNat] at ho10;rw [← Ny110.out] at ho10));replace HO_3:=am (Kd.S_elder' qq82 (Kd.R_base ho10) hb);have HO112:=am (Kd.R_lower ho10 (below_size qq80));replace HB:=am qq153;clear hb ho10;refine hK.out _ _ ⟨(ct HB.out hw108_0 :),(ct HB.out hw108_1 :),(ct HB.out hw108_2 :),(ct HB.out hw109_0 :),(ct HB.out hw109_1 :),(ct HB.out hw109_2 :),(ct HB.out hw113_0 :),(ct HB.out hw113_1 :),(ct HB.out hw113_2 :)⟩ (fun hHeld => ?_);clear hK K;refine norm_ (a':=?_) ?_ ?_;rotate_left
       ·show Act.put _ (some 23) _ = _
        simp only [Act.put,sA,s0,s1,i64_w,i32_w];rfl
       refine one_ (i:=17) (N:=some 29) #[Y,Y,Y,Y,Y,Y,Y,Y,Y,Y,Y,Y,Y,Y,Y,Y,Y,Y,Z,Z,Z,Z] rfl rfl (one_of HT_.out (by kernel_rfl)) (by decide) (fun K hK => ?_);refine Kd.R_append_rows_step (Kd.int .i64) (w0:=w) w.heap.size (by rfl) (.tmp 23) (.tmp 28) 43 3 (.int .i64 0) 8 rfl Try.underlying43 info3 rfl (by decide) (by omega) v111 y110 ((rd_T45 l0 x4_1).f2) _ _ _ (fun _ => True) (fun _ => False) rfl rfl ?aO ?aR (fun _ _ h => h) (fun _ h => h.elim) ?aF ?aB ?aS ?aL ?_;(case aR => repeat (first | exact (Kd.C_below HR113_2.out HB.out) | (with_reducible refine cA ?_ _) | (with_reducible refine cN ?_ _) | (with_reducible refine cD ?_)));(case aB => exact qq74);(case aF => exact qq116);(case aO => exact (by (with_reducible repeat (first | apply kA | apply kN | apply kD));exact HO112.out));(case aS => exact qq66);(case aL => have:=LMc6.out;omega);intro v115 w11 ho hb hg hat;rw [← Ny114.out] at ho;replace HO_3:=am (Kd.S_after (ok:=(fun _ => True)) qq82 hg hat);replace HB:=am (hb);have HO116:=am (ho);clear HO112;clear ho hb hg hat;obtain ⟨Ao12,co12,eo12⟩:=Kd.R_slice HO116.out;(first | subst eo12 | (injection eo12 with f1_ f2_ f3_;have f4_:=f1_.symm;have f5_:=f3_.symm;clear f1_ f2_ f3_;subst f4_;subst f5_));refine hK.out _ _ ⟨(ct HB.out hw108_0 :),(ct HB.out hw108_1 :),(ct HB.out hw108_2 :),(ct HB.out hw109_0 :),(ct HB.out hw109_1 :),(ct HB.out hw109_2 :),(ct HB.out hw113_0 :),(ct HB.out hw113_1 :),(ct HB.out hw113_2 :)⟩ (fun hHeld => ?_);clear hK K;refine norm_ (a':=?_) ?_ ?_;rotate_left
       ·show Act.put _ (some 29) _ = _
        simp only [Act.put,sA,s0,s1,i64_w,i32_w];rfl
       refine pV (i:=18) (N:=some 30) #[Y,Y,Y,Y,Y,Y,Y,Y,Y,Y,Y,Y,Y,Y,Y,Y,Y,Y,Y,Z,Z,Z] rfl rfl qT ?_
       refine one_ (i:=19) (N:=some 31) #[Y,Y,Y,Y,Y,Y,Y,Y,Y,Y,Y,Y,Y,Y,Y,Y,Y,Y,Y,Y,Z,Z] rfl rfl (one_of HT_.out (by kernel_rfl)) (by decide) (fun K hK => ?_);refine value_ (w1:=?_) (v:=?_) (by rfl) rfl ?_ ?_;rotate_left 2
       ·go_simp
        constructor
        ·rfl
        ·rfl
       refine hK.out _ _ ⟨(World.cell?_alloc_lt _ _ _ (bl _ _ ((ct HB.out hw108_0 :)))).trans ((ct HB.out hw108_0 :)),(World.cell?_alloc_lt _ _ _ (bl _ _ ((ct HB.out hw108_1 :)))).trans ((ct HB.out hw108_1 :)),(World.cell?_alloc_lt _ _ _ (bl _ _ ((ct HB.out hw108_2 :)))).trans ((ct HB.out hw108_2 :)),(World.cell?_alloc_lt _ _ _ (bl _ _ ((ct HB.out hw109_0 :)))).trans ((ct HB.out hw109_0 :)),(World.cell?_alloc_lt _ _ _ (bl _ _ ((ct HB.out hw109_1 :)))).trans ((ct HB.out hw109_1 :)),(World.cell?_alloc_lt _ _ _ (bl _ _ ((ct HB.out hw109_2 :)))).trans ((ct HB.out hw109_2 :)),(World.cell?_alloc_lt _ _ _ (bl _ _ ((ct HB.out hw113_0 :)))).trans ((ct HB.out hw113_0 :)),(World.cell?_alloc_lt _ _ _ (bl _ _ ((ct HB.out hw113_1 :)))).trans ((ct HB.out hw113_1 :)),(World.cell?_alloc_lt _ _ _ (bl _ _ ((ct HB.out hw113_2 :)))).trans ((ct HB.out hw113_2 :))⟩ (fun hHeld => ?_);clear hK K;refine norm_ (a':=?_) ?_ ?_;rotate_left
       ·show Act.put _ (some 31) _ = _
        simp only [Act.put,sA,s0,s1,i64_w,i32_w];rfl
       refine one_ (i:=20) (N:=some 32) #[Y,Y,Y,Y,Y,Y,Y,Y,Y,Y,Y,Y,Y,Y,Y,Y,Y,Y,Y,Y,Y,Z] rfl rfl (one_of HT_.out (by kernel_rfl)) (by decide) (fun K hK => ?_);refine Kd.S_append_step k45 (w0:=w) w.heap.size (by rfl) (.tmp 12) (.tmp 31) 24 45 (.agg #[(.int .i64 0),(.int .i64 0),(.slice none 0 0)]) 40 rfl Try.underlying24 info45 rfl (by decide) (by omega) u3 x3_1 (⟨(rd_T45 l0 x4_1).f0,(rd_T45 l0 x4_1).f1,y114⟩ : S45) [.int .i64 ((rd_T45 l0 x4_1).f0),.int .i64 ((rd_T45 l0 x4_1).f1),.slice Ao12 y114.length co12] (fun _ => True) (fun k_ => some k_ = (.slice Ao12 y114.length co12 : Value).ownBlock) rfl rfl ?aP (fun k_ hk_ => ((Kd.R_mono (ok':=fun k_ => ((fun _ => True)) k_ ∧ some k_ ≠ (u3 : Value).ownBlock) (Kd.R_apart' (HO116.out) (Kd.S_typed HO_3.out) (by decide)) (fun k_ hk => ⟨trivial,hk.2⟩))).1 k_ hk_.symm) ?aF ?aO ?aB ?aS ?aL ?_;(case aP => exact k45_mkM _ _ _ (⟨(rd_T45 l0 x4_1).f0,(rd_T45 l0 x4_1).f1,y114⟩ : S45) (Kd.R_mono (Kd.R_tight rfl (Kd.R_mono (ok':=fun k_ => ((fun _ => True)) k_ ∧ some k_ ≠ (u3 : Value).ownBlock) (Kd.R_apart' (HO116.out) (Kd.S_typed HO_3.out) (by decide)) (fun k_ hk => ⟨trivial,hk.2⟩))) (fun _ h_ => h_)));(case aB => exact qq74);(case aF => exact qq116);(case aO => exact (by (with_reducible repeat (first | apply Kd.S_alloc | apply Kd.S_drewN | apply Kd.S_drew));exact Kd.S_mono HO_3.out (fun k_ hk => ⟨trivial,fun e_ => hk.2 e_⟩)));(case aS => exact qq66);(case aL => have:=LMc7.out;omega);intro v118 w13 ho hb hg hat;rw [← Ny117.out] at ho;replace HB:=am (hb);have HO119:=am (ho);clear HO_3 HO116;clear ho hb hg hat;refine hK.out _ _ ⟨(ct HB.out hw108_0 :),(ct HB.out hw108_1 :),(ct HB.out hw108_2 :),(ct HB.out hw109_0 :),(ct HB.out hw109_1 :),(ct HB.out hw109_2 :),(ct HB.out hw113_0 :),(ct HB.out hw113_1 :),(ct HB.out hw113_2 :)⟩ (fun hHeld => ?_);clear hK K;refine norm_ (a':=?_) ?_ ?_;rotate_left
       ·show Act.put _ (some 32) _ = _
        simp only [Act.put,sA,s0,s1,i64_w,i32_w];rfl
       refine pV (i:=21) (N:=some 3) #[Y,Y,Y,Y,Y,Y,Y,Y,Y,Y,Y,Y,Y,Y,Y,Y,Y,Y,Y,Y,Y,Y] rfl rfl qT ?_
       refine done_ (done_of HT_.out (by kernel_rfl)) ?_
       try go_wp2
       go_roundg k1
       case measure => have:=HK1.out;omega
       case rel => exact ⟨(y117),(wrap64 (x4_1 + 1)),qq105,H',⟨qq118⟩,⟨by (with_reducible repeat (first | apply Kd.S_alloc | apply Kd.S_drewN | apply Kd.S_drew));exact HO119.out⟩,⟨qq80⟩⟩
      ·rw [if_neg c7] at H;exact absurd H (by simp)
     ·rw [if_neg c6] at H;exact absurd H (by simp)
    ·rw [if_neg c5] at H;exact absurd H (by simp)
   ·rw [if_neg c4] at H;have c4b0 : decide (x4_1 < (l0.length : Int)) = false:=decide_eq_false c4;clear c4;obtain rfl:=Option.some.inj H;go_wp2
    go_ret
    exact ⟨_,qq93,qq82,qq80⟩

/-! ### spec_l14Has: function 46 -/
def spec_l14Has.l0 : Nat → List Int → Int → Int → Option (Bool)
 | 0,_,_,_ => none
 | k + 1,x0,x1,x5 => if x5 < (x0.length : Int) then (if 0 ≤ x5 then (if (rd x0 x5) = x1 then (some true) else (spec_l14Has.l0 k x0 x1 (wrap64 (x5 + 1)))) else (none)) else (some false)
def spec_l14Has.f (k : Nat) (l0 : List Int) (a1 : Int) : Option (Bool) := spec_l14Has.l0 k l0 a1 0
theorem spec_l14Has.mono_l : ∀ k, (∀ y0 y1 y2, LeO (spec_l14Has.l0 k y0 y1 y2) (spec_l14Has.l0 (k + 1) y0 y1 y2))
 | 0 => fun _ _ _ r h => by simp [spec_l14Has.l0] at h
 | k + 1 => by
  have ih0:=spec_l14Has.mono_l k
  ·intro y0 y1 y2
   unfold spec_l14Has.l0
   repeat' first
   | (with_reducible exact ih0 _ _ _)
   | (with_reducible exact LeO.refl _)
   | (with_reducible exact LeO.none _)
   | (with_reducible refine LeO.ite ?_ ?_)
   | (with_reducible refine LeO.bind ?_ (fun _ => ?_))
   | exact ih0 _ _ _
   | exact LeO.none _
   | refine LeO.ite ?_ ?_
   | refine LeO.bind ?_ (fun _ => ?_)
theorem spec_l14Has.mono : ∀ a0 a1 k, LeO (spec_l14Has.f k a0 a1) (spec_l14Has.f (k + 1) a0 a1) := by
 intro a0 a1 k
 have ih0:=spec_l14Has.mono_l k
 unfold spec_l14Has.f
 repeat' first
   | (with_reducible exact ih0 _ _ _)
   | (with_reducible exact LeO.refl _)
   | (with_reducible exact LeO.none _)
   | (with_reducible refine LeO.ite ?_ ?_)
   | (with_reducible refine LeO.bind ?_ (fun _ => ?_))
   | exact ih0 _ _ _
   | exact LeO.none _
   | refine LeO.ite ?_ ?_
   | refine LeO.bind ?_ (fun _ => ?_)
set_option maxHeartbeats 8000000 in
set_option maxRecDepth 100000 in
theorem spec_l14Has.calls (k : Nat) (A0 : Option Addr) (c0 : Nat) (l0 : List Int) (a1 : Int) (r : Bool) (w : World) (hr0 : Kd.C (Kd.int .i64) w A0 l0.length l0) (hc0 : l0.length ≤ c0) (h : spec_l14Has.f k l0 a1 = some r) :
  Calls Try.prog 46 #[.slice A0 l0.length c0,.int .i64 a1] w fun e w' => e = .returned (.bool r) ∧ Drawn0 w w':=by
 have HR0:=am hr0;have HC0:=am hc0;clear hr0 hc0;have H : (spec_l14Has.l0 k l0 a1 0) = some r:=h;clear h;have H':=am H;clear H
 go_enter Try.func46,Try.ntmps46
 go_wp2
 go_loopg [5] k (fun kq v5 w' => ∃ (x5_1 : Int),v5 = .int .i64 x5_1 ∧ Aside0 (spec_l14Has.l0 kq l0 a1 x5_1 = some r) ∧ Aside0 (kq ≤ k) ∧ Drawn0 w w')
 case atStart => exact ⟨(0),qq105,H',⟨Nat.le_refl _⟩,qq101⟩
 case round =>
  clear H'
  try clear p2
  obtain ⟨x5_1,rfl,HA,HK1,⟨m1,rfl⟩⟩:=hrel
  cases gk with
  | zero => exact absurd HA.out (by simp [spec_l14Has.l0])
  | succ k1 =>
   have H:=HA.out;clear HA;simp only [spec_l14Has.l0] at H
   by_cases c3 : x5_1 < (l0.length : Int)
   ·rw [if_pos c3] at H;have c3b0 : decide (x5_1 < (l0.length : Int)) = true:=decide_eq_true c3;clear c3
    by_cases c4 : 0 ≤ x5_1
    ·rw [if_pos c4] at H;have c4b0 : decide (0 ≤ x5_1) = true:=decide_eq_true c4;clear c4
     by_cases c5 : (rd l0 x5_1) = a1
     ·rw [if_pos c5] at H;have c5b0 : ((rd l0 x5_1) == a1) = true:=beq_iff_eq.mpr c5;have c5b1 : ((rd l0 x5_1) != a1) = false:=bne_eq_false_iff_eq.mpr c5;clear c5;obtain rfl:=Option.some.inj H;have p120 : 0 ≤ (x5_1 : Int):=odt qq103;have q120 : x5_1 < (l0.length : Int):=odt qq103;obtain ⟨ad120,e120,hx120_0⟩:=Kd.at_int HR0.out x5_1 p120 q120
      cases e120
      replace p120:=eq_true p120;replace q120:=eq_true q120;go_wp2
      go_ret
      exact ⟨qq105,qq101⟩
     ·rw [if_neg c5] at H;have c5b0 : ((rd l0 x5_1) == a1) = false:=beq_eq_false_iff_ne.mpr c5;have c5b1 : ((rd l0 x5_1) != a1) = true:=bne_iff_ne.mpr c5;have H':=am H;clear H;have p120 : 0 ≤ (x5_1 : Int):=odt qq103;have q120 : x5_1 < (l0.length : Int):=odt qq103;obtain ⟨ad120,e120,hx120_0⟩:=Kd.at_int HR0.out x5_1 p120 q120
      cases e120
      replace p120:=eq_true p120;replace q120:=eq_true q120;go_wp2
      go_roundg k1
      case measure => have:=HK1.out;omega
      case rel => exact ⟨(wrap64 (x5_1 + 1)),qq105,H',⟨qq118⟩,qq101⟩
    ·rw [if_neg c4] at H;exact absurd H (by simp)
   ·rw [if_neg c3] at H;have c3b0 : decide (x5_1 < (l0.length : Int)) = false:=decide_eq_false c3;clear c3;obtain rfl:=Option.some.inj H;go_wp2
    go_ret
    exact ⟨qq105,qq101⟩

/-! ### spec_TentOf: function 27 -/
def spec_TentOf.l0 : Nat → List (S45) → Int → Int → Option (Int)
 | 0,_,_,_ => none
 | k + 1,x0,x1,x5 => if x5 < (x0.length : Int) then (if 0 ≤ x5 then ((spec_l14Has.f k ((rd_T45 x0 x5).f2) x1).bind fun t122 => (if t122 = true then (some ((rd_T45 x0 x5).f0)) else (spec_TentOf.l0 k x0 x1 (wrap64 (x5 + 1))))) else (none)) else (some 0)
def spec_TentOf.f (k : Nat) (l0 : List (S45)) (a1 : Int) : Option (Int) := spec_TentOf.l0 k l0 a1 0
theorem spec_TentOf.mono_l : ∀ k, (∀ y0 y1 y2, LeO (spec_TentOf.l0 k y0 y1 y2) (spec_TentOf.l0 (k + 1) y0 y1 y2))
 | 0 => fun _ _ _ r h => by simp [spec_TentOf.l0] at h
 | k + 1 => by
  have ih0:=spec_TentOf.mono_l k
  ·intro y0 y1 y2
   unfold spec_TentOf.l0
   repeat' first
   | (with_reducible exact ih0 _ _ _)
   | (with_reducible exact spec_l14Has.mono _ _ _)
   | (with_reducible exact LeO.refl _)
   | (with_reducible exact LeO.none _)
   | (with_reducible refine LeO.ite ?_ ?_)
   | (with_reducible refine LeO.bind ?_ (fun _ => ?_))
   | exact ih0 _ _ _
   | exact spec_l14Has.mono _ _ _
   | exact LeO.none _
   | refine LeO.ite ?_ ?_
   | refine LeO.bind ?_ (fun _ => ?_)
theorem spec_TentOf.mono : ∀ a0 a1 k, LeO (spec_TentOf.f k a0 a1) (spec_TentOf.f (k + 1) a0 a1) := by
 intro a0 a1 k
 have ih0:=spec_TentOf.mono_l k
 unfold spec_TentOf.f
 repeat' first
   | (with_reducible exact ih0 _ _ _)
   | (with_reducible exact spec_l14Has.mono _ _ _)
   | (with_reducible exact LeO.refl _)
   | (with_reducible exact LeO.none _)
   | (with_reducible refine LeO.ite ?_ ?_)
   | (with_reducible refine LeO.bind ?_ (fun _ => ?_))
   | exact ih0 _ _ _
   | exact spec_l14Has.mono _ _ _
   | exact LeO.none _
   | refine LeO.ite ?_ ?_
   | refine LeO.bind ?_ (fun _ => ?_)
set_option maxHeartbeats 8000000 in
set_option maxRecDepth 100000 in
theorem spec_TentOf.calls (k : Nat) (A0 : Option Addr) (c0 : Nat) (l0 : List (S45)) (a1 : Int) (r : Int) (w : World) (hr0 : Kd.C k45 w A0 l0.length l0) (hc0 : l0.length ≤ c0) (h : spec_TentOf.f k l0 a1 = some r) :
  Calls Try.prog 27 #[.slice A0 l0.length c0,.int .i64 a1] w fun e w' => e = .returned (.int .i64 r) ∧ Drawn0 w w':=by
 have HR0:=am hr0;have HC0:=am hc0;clear hr0 hc0;have H : (spec_TentOf.l0 k l0 a1 0) = some r:=h;clear h;have H':=am H;clear H
 go_enter Try.func27,Try.ntmps27
 go_wp2
 go_loopg [5] k (fun kq v5 w' => ∃ (x5_1 : Int),v5 = .int .i64 x5_1 ∧ Aside0 (spec_TentOf.l0 kq l0 a1 x5_1 = some r) ∧ Aside0 (kq ≤ k) ∧ Drawn0 w w')
 case atStart => exact ⟨(0),qq105,H',⟨Nat.le_refl _⟩,qq101⟩
 case round =>
  clear H'
  try clear c2
  try clear p2
  obtain ⟨x5_1,rfl,HA,HK1,⟨m1,rfl⟩⟩:=hrel
  cases gk with
  | zero => exact absurd HA.out (by simp [spec_TentOf.l0])
  | succ k1 =>
   have H:=HA.out;clear HA;simp only [spec_TentOf.l0] at H
   by_cases c3 : x5_1 < (l0.length : Int)
   ·rw [if_pos c3] at H;have c3b0 : decide (x5_1 < (l0.length : Int)) = true:=decide_eq_true c3;clear c3
    by_cases c4 : 0 ≤ x5_1
    ·rw [if_pos c4] at H;have c4b0 : decide (0 ≤ x5_1) = true:=decide_eq_true c4;clear c4;replace H:=bS.mp H;obtain ⟨t122,A50,H⟩:=H;replace H : (if t122 = true then (some ((rd_T45 l0 x5_1).f0)) else (spec_TentOf.l0 k1 l0 a1 (wrap64 (x5_1 + 1)))) = some r:=H;have A5:=am A50;clear A50
     by_cases c6 : t122 = true
     ·subst c6;have H1 : (some ((rd_T45 l0 x5_1).f0)) = some r:=by rw [if_pos rfl] at H;exact H
      clear H;have H:=H1;clear H1;obtain rfl:=Option.some.inj H;have p121 : 0 ≤ (x5_1 : Int):=odt qq103;have q121 : x5_1 < (l0.length : Int):=odt qq103;obtain ⟨ad121,A121_2,c121_2,e121,hx121_0,hx121_1,hx121_2,hl121_2,hi121_2⟩:=at_T45 HR0.out x5_1 p121 q121
      cases e121
      have HR121_2:=am hi121_2;have HC121_2:=am hl121_2;clear hi121_2 hl121_2;replace p121:=eq_true p121;replace q121:=eq_true q121;go_wp2_with (first | ((with_reducible refine gate_callee (f:=46) rfl ?_);refine goesL_ (some 18) rfl rfl Try.func46 (by kernel_rfl) rfl #[.slice A121_2 ((rd_T45 l0 x5_1).f2).length c121_2,.int .i64 a1] rfl qq48 ?_;(with_reducible refine (spec_l14Has.calls k1 _ _ ((rd_T45 l0 x5_1).f2) a1 true _ ?side1 ?side2 A5.out).mono ?_);(case side1 => exact qq41);(case side2 => exact HC121_2.out);rintro e w' ⟨rfl,⟨nd,rfl⟩⟩;refine ⟨_,rfl,?_⟩;have p123 : 0 ≤ (x5_1 : Int):=odt qq103;have q123 : x5_1 < (l0.length : Int):=odt qq103;obtain ⟨ad123,A123_2,c123_2,e123,hx123_0,hx123_1,hx123_2,hl123_2,hi123_2⟩:=at_T45 HR0.out x5_1 p123 q123;obtain rfl : ad121 = ad123:=(by injection e123);have HR123_2:=am hi123_2;have HC123_2:=am hl123_2;clear hi123_2 hl123_2;replace p123:=eq_true p123;replace q123:=eq_true q123;have ea_:=Option.some.inj (hx121_2.symm.trans hx123_2);injection ea_ with ea_ en_ ec_;subst ea_;subst ec_;clear en_))
      go_ret
      exact ⟨qq105,qq101⟩
     ·replace c6:=Bool.eq_false_iff.mpr c6;subst c6;have H1 : (spec_TentOf.l0 k1 l0 a1 (wrap64 (x5_1 + 1))) = some r:=by rw [if_neg (show ¬ (false = true) by decide)] at H;exact H
      clear H;have H:=H1;clear H1;have H':=am H;clear H;have p121 : 0 ≤ (x5_1 : Int):=odt qq103;have q121 : x5_1 < (l0.length : Int):=odt qq103;obtain ⟨ad121,A121_2,c121_2,e121,hx121_0,hx121_1,hx121_2,hl121_2,hi121_2⟩:=at_T45 HR0.out x5_1 p121 q121
      cases e121
      have HR121_2:=am hi121_2;have HC121_2:=am hl121_2;clear hi121_2 hl121_2;replace p121:=eq_true p121;replace q121:=eq_true q121;go_wp2_with (first | ((with_reducible refine gate_callee (f:=46) rfl ?_);refine goesL_ (some 18) rfl rfl Try.func46 (by kernel_rfl) rfl #[.slice A121_2 ((rd_T45 l0 x5_1).f2).length c121_2,.int .i64 a1] rfl qq48 ?_;(with_reducible refine (spec_l14Has.calls k1 _ _ ((rd_T45 l0 x5_1).f2) a1 false _ ?side1 ?side2 A5.out).mono ?_);(case side1 => exact qq41);(case side2 => exact HC121_2.out);rintro e w' ⟨rfl,⟨nd,rfl⟩⟩;refine ⟨_,rfl,?_⟩))
      go_roundg k1
      case measure => have:=HK1.out;omega
      case rel => exact ⟨(wrap64 (x5_1 + 1)),qq105,H',⟨qq118⟩,qq101⟩
    ·rw [if_neg c4] at H;exact absurd H (by simp)
   ·rw [if_neg c3] at H;have c3b0 : decide (x5_1 < (l0.length : Int)) = false:=decide_eq_false c3;clear c3;obtain rfl:=Option.some.inj H;go_wp2
    go_ret
    exact ⟨qq105,qq101⟩

/-! ### spec_l1In: function 47 -/
def spec_l1In.f (a0 : Int) (a1 : Int) (a2 : Int) : Option (Bool) := if a0 ≥ a1 then (some (decide (a0 ≤ a2))) else (some false)
set_option maxHeartbeats 8000000 in
set_option maxRecDepth 100000 in
theorem spec_l1In.calls (a0 : Int) (a1 : Int) (a2 : Int) (r : Bool) (w : World) (h : spec_l1In.f a0 a1 a2 = some r) :
  Calls Try.prog 47 #[.int .i64 a0,.int .i64 a1,.int .i64 a2] w fun e w' => e = .returned (.bool r) ∧ Drawn0 w w':=by
 have H : (if a0 ≥ a1 then (some (decide (a0 ≤ a2))) else (some false)) = some r:=h;clear h
 by_cases c4 : a0 ≥ a1
 ·rw [if_pos c4] at H;have c4b0 : decide (a1 ≤ a0) = true:=decide_eq_true c4;clear c4;obtain rfl:=Option.some.inj H
  go_enter Try.func47,Try.ntmps47
  go_wp2
  go_ret
  exact ⟨qq105,qq101⟩
 ·rw [if_neg c4] at H;have c4b0 : decide (a1 ≤ a0) = false:=decide_eq_false c4;clear c4;obtain rfl:=Option.some.inj H
  go_enter Try.func47,Try.ntmps47
  go_wp2
  go_ret
  exact ⟨qq105,qq101⟩

end Go.Proofs.Ytnghncedinngoaa.PFnExactMoveTo
