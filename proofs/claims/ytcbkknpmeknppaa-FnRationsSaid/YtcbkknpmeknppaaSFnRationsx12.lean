/- Contracts of functions that the law FnRations reaches, for its row: lines that the kit's printer wrote for this claim, set shorter by a program of this session (own.py), and what fell in Lean proved anew. Lean checks them. -/
import Derived.Test.YtcbkknpmeknppaaSFnRationsx0
import Derived.Test.YtcbkknpmeknppaaSFnRationsx10
import Derived.Test.YtcbkknpmeknppaaSFnRationsx11
namespace Go.Proofs.Ytcbkknpmeknppaa.PFnRations
open Go.RowKit Go.Proofs.YtcbkknpmeknppaaW.PrintWords Go.Proofs.YtcbkknpmeknppaaW.PrintLast Go.Proofs.YtcbkknpmeknppaaW.PrintMore
attribute [local go_sem] max2_int min2_int max_two min_two max_three min_three max_four min_four   -- for this text's walks alone
set_option linter.unusedVariables false
set_option linter.unusedSimpArgs false

/-! ### impl_NeedOf: function 19 -/
def impl_NeedOf.l0 : Nat → Int → List (S112) → Int → Int → Option (Int)
 | 0,_,_,_,_ => none
 | k + 1,x3,x9,x10,x11 => if x11 < x10 then (if 0 ≤ x11 then (if x11 < (x9.length : Int) then (impl_NeedOf.l0 k (wrap64 (x3 + ((rd_T112 x9 x11).f2))) x9 x10 (wrap64 (x11 + 1))) else (none)) else (none)) else (some x3)
def impl_NeedOf.f (k : Nat) (l0 : List (S112)) : Option (Int) := (impl_AreCrew.f k l0).bind fun t464 => (if t464 = true then (impl_NeedOf.l0 k 0 l0 (l0.length : Int) 0) else (some 0))
theorem impl_NeedOf.mono_l : ∀ k, (∀ y0 y1 y2 y3, LeO (impl_NeedOf.l0 k y0 y1 y2 y3) (impl_NeedOf.l0 (k + 1) y0 y1 y2 y3))
 | 0 => fun _ _ _ _ r h => by simp [impl_NeedOf.l0] at h
 | k + 1 => by
  have ih0:=impl_NeedOf.mono_l k
  ·intro y0 y1 y2 y3
   unfold impl_NeedOf.l0
   repeat' first
   | (with_reducible exact ih0 _ _ _ _)
   | (with_reducible exact impl_AreCrew.mono _ _)
   | (with_reducible exact LeO.refl _)
   | (with_reducible exact LeO.none _)
   | (with_reducible refine LeO.ite ?_ ?_)
   | (with_reducible refine LeO.bind ?_ (fun _ => ?_))
   | exact ih0 _ _ _ _
   | exact impl_AreCrew.mono _ _
   | exact LeO.none _
   | refine LeO.ite ?_ ?_
   | refine LeO.bind ?_ (fun _ => ?_)
theorem impl_NeedOf.mono : ∀ a0 k, LeO (impl_NeedOf.f k a0) (impl_NeedOf.f (k + 1) a0) := by
 intro a0 k
 have ih0:=impl_NeedOf.mono_l k
 unfold impl_NeedOf.f
 repeat' first
   | (with_reducible exact ih0 _ _ _ _)
   | (with_reducible exact impl_AreCrew.mono _ _)
   | (with_reducible exact LeO.refl _)
   | (with_reducible exact LeO.none _)
   | (with_reducible refine LeO.ite ?_ ?_)
   | (with_reducible refine LeO.bind ?_ (fun _ => ?_))
   | exact ih0 _ _ _ _
   | exact impl_AreCrew.mono _ _
   | exact LeO.none _
   | refine LeO.ite ?_ ?_
   | refine LeO.bind ?_ (fun _ => ?_)
set_option maxHeartbeats 8000000 in
set_option maxRecDepth 100000 in
theorem impl_NeedOf.calls (k : Nat) (A0 : Option Addr) (c0 : Nat) (l0 : List (S112)) (r : Int) (w : World) (hr0 : Kd.C k112 w A0 l0.length l0) (hc0 : l0.length ≤ c0) (h : impl_NeedOf.f k l0 = some r) :
  Calls Try.prog 19 #[.slice A0 l0.length c0] w fun e w' => e = .returned (.int .i64 r) ∧ Below w.heap.size w w':=by
 have hu112:=Try.underlying112;have HR0:=am hr0;have HC0:=am hc0;clear hr0 hc0;have HB:=am (Below.refl w.heap.size w);have H : ((impl_AreCrew.f k l0).bind fun t464 => (if t464 = true then (impl_NeedOf.l0 k 0 l0 (l0.length : Int) 0) else (some 0))) = some r:=h;clear h;replace H:=bS.mp H;obtain ⟨t464,A20,H⟩:=H;replace H : (if t464 = true then (impl_NeedOf.l0 k 0 l0 (l0.length : Int) 0) else (some 0)) = some r:=H;have A2:=am A20;clear A20
 by_cases c3 : t464 = true
 ·subst c3;have H1 : (impl_NeedOf.l0 k 0 l0 (l0.length : Int) 0) = some r:=by rw [if_pos rfl] at H;exact H
  clear H;have H:=H1;clear H1;have H':=am H;clear H
  go_enter Try.func19,Try.ntmps19
  go_wp2_with (first | ((with_reducible refine gate_callee (f:=75) rfl ?_);refine goesL_ (some 7) rfl rfl Try.func75 (by kernel_rfl) rfl #[.slice A0 l0.length c0] rfl qq137 ?_;(with_reducible refine (impl_AreCrew.calls k _ _ l0 true _ ?side1 ?side2 A2.out).mono ?_);(case side1 => exact qq138);(case side2 => exact HC0.out);rintro e w4 ⟨rfl,hb⟩;refine ⟨_,rfl,?_⟩;replace HB:=am (below_step qq143 hb);(try clear hb);(try clear hb2);(try clear hk);(try clear hi)))
  go_loopg [3,11] k (fun kq v3 v11 w' => ∃ (x3_1 : Int) (x11_1 : Int),v3 = .int .i64 x3_1 ∧ v11 = .int .i64 x11_1 ∧ Aside0 (impl_NeedOf.l0 kq x3_1 l0 (l0.length : Int) x11_1 = some r) ∧ Aside0 (kq ≤ k) ∧ Aside0 (Below w.heap.size w w'))
  case atStart => exact ⟨(0),(0),qq225,qq225,H',⟨Nat.le_refl _⟩,⟨qq143⟩⟩
  case round =>
   clear H'
   try clear c1
   try clear p2
   try clear c3
   obtain ⟨x3_1,x11_1,rfl,rfl,HA,HK1,HB⟩:=hrel
   cases gk with
   | zero => exact absurd HA.out (by simp [impl_NeedOf.l0])
   | succ k1 =>
    have H:=HA.out;clear HA;simp only [impl_NeedOf.l0] at H
    by_cases c5 : x11_1 < (l0.length : Int)
    ·rw [if_pos c5] at H;have c5b0 : decide (x11_1 < (l0.length : Int)) = true:=decide_eq_true c5;clear c5
     by_cases c6 : 0 ≤ x11_1
     ·rw [if_pos c6] at H;have c6b0 : decide (0 ≤ x11_1) = true:=decide_eq_true c6;clear c6
      by_cases c7 : x11_1 < (l0.length : Int)
      ·rw [if_pos c7] at H;have c7b0 : decide (x11_1 < (l0.length : Int)) = true:=decide_eq_true c7;clear c7;have H':=am H;clear H;have p465 : 0 ≤ (x11_1 : Int):=odt qq223;have q465 : x11_1 < (l0.length : Int):=odt qq223;obtain ⟨ad465,e465,hx465_0,hx465_1,hx465_2,hx465_3⟩:=at_T112 HR0.out x11_1 p465 q465
       cases e465
       replace hx465_0:=(ct HB.out hx465_0 :)
       replace hx465_1:=(ct HB.out hx465_1 :)
       replace hx465_2:=(ct HB.out hx465_2 :)
       replace hx465_3:=(ct HB.out hx465_3 :)
       replace p465:=eq_true p465;replace q465:=eq_true q465;go_wp2_with (first | ((with_reducible refine gate_dst (N:=5) rfl ?_);refine box_event ?hg (N:=5) ?hd (cs:=#[.int .i64 0,.int .i64 0,.int .i64 0,.bool false]) (t:=112) ?hr ?_;(case hd => rfl);(case hg => rfl);(case hr => exact qq226);intro gb466 hg w8 hbox hb;have BK466:=am (hbox);have GW466:=am ((qq119 : w.heap.size ≤ gb466));have GE466:=am ((qq119 : w.heap.size ≤ gb466));replace HB:=am (below_step qq143 hb);clear hb hbox hg;obtain ⟨hcz9_0,hcz9_1,hcz9_2,hcz9_3,hfz9_0,hfz9_1,hfz9_2,hfz9_3⟩:=bcl4 BK466.out))
       go_roundg k1
       case measure => have:=HK1.out;omega
       case rel => exact ⟨(wrap64 (x3_1 + ((rd_T112 l0 x11_1).f2))),(wrap64 (x11_1 + 1)),qq225,qq225,H',⟨qq239⟩,⟨by repeat (first | (with_reducible first | exact HB.out | apply bA | apply bN | apply bD | refine below_set ?_ GE466.out) | exact HB.out)⟩⟩
      ·rw [if_neg c7] at H;exact absurd H (by simp)
     ·rw [if_neg c6] at H;exact absurd H (by simp)
    ·rw [if_neg c5] at H;have c5b0 : decide (x11_1 < (l0.length : Int)) = false:=decide_eq_false c5;clear c5;obtain rfl:=Option.some.inj H;go_wp2
     go_ret
     exact ⟨qq180,qq143⟩
 ·replace c3:=Bool.eq_false_iff.mpr c3;subst c3;have H1 : (some 0) = some r:=by rw [if_neg (show ¬ (false = true) by decide)] at H;exact H
  clear H;have H:=H1;clear H1;obtain rfl:=Option.some.inj H
  go_enter Try.func19,Try.ntmps19
  go_wp2_with (first | ((with_reducible refine gate_callee (f:=75) rfl ?_);refine goesL_ (some 7) rfl rfl Try.func75 (by kernel_rfl) rfl #[.slice A0 l0.length c0] rfl qq137 ?_;(with_reducible refine (impl_AreCrew.calls k _ _ l0 false _ ?side1 ?side2 A2.out).mono ?_);(case side1 => exact qq138);(case side2 => exact HC0.out);rintro e w10 ⟨rfl,hb⟩;refine ⟨_,rfl,?_⟩;replace HB:=am (below_step qq143 hb);(try clear hb);(try clear hb2);(try clear hk);(try clear hi)))
  go_ret
  exact ⟨qq180,qq143⟩

/-! ### impl_NeedAt: function 14 -/
def impl_NeedAt.f (k : Nat) (l0 : List (S112)) (a1 : Int) : Option (Int) := (impl_InRange.f a1 0 2).bind fun t467 => (if t467 = true then ((impl_NeedOf.f k l0).bind fun t468 => (if (wrap64 (a1 + 1)) = 0 then (none) else (some (wrap64 (Int.tdiv (wrap64 (t468 + a1)) (wrap64 (a1 + 1))))))) else (some 0))
theorem impl_NeedAt.mono : ∀ a0 a1 k, LeO (impl_NeedAt.f k a0 a1) (impl_NeedAt.f (k + 1) a0 a1) := by
 intro a0 a1 k
 unfold impl_NeedAt.f
 repeat' first
   | (with_reducible exact impl_NeedOf.mono _ _)
   | (with_reducible exact LeO.refl _)
   | (with_reducible exact LeO.none _)
   | (with_reducible refine LeO.ite ?_ ?_)
   | (with_reducible refine LeO.bind ?_ (fun _ => ?_))
   | exact impl_NeedOf.mono _ _
   | exact LeO.none _
   | refine LeO.ite ?_ ?_
   | refine LeO.bind ?_ (fun _ => ?_)
set_option maxHeartbeats 8000000 in
set_option maxRecDepth 100000 in
theorem impl_NeedAt.calls (k : Nat) (A0 : Option Addr) (c0 : Nat) (l0 : List (S112)) (a1 : Int) (r : Int) (w : World) (hr0 : Kd.C k112 w A0 l0.length l0) (hc0 : l0.length ≤ c0) (h : impl_NeedAt.f k l0 a1 = some r) :
  Calls Try.prog 14 #[.slice A0 l0.length c0,.int .i64 a1] w fun e w' => e = .returned (.int .i64 r) ∧ Below w.heap.size w w':=by
 have HR0:=am hr0;have HC0:=am hc0;clear hr0 hc0;have HB:=am (Below.refl w.heap.size w);have H : ((impl_InRange.f a1 0 2).bind fun t467 => (if t467 = true then ((impl_NeedOf.f k l0).bind fun t468 => (if (wrap64 (a1 + 1)) = 0 then (none) else (some (wrap64 (Int.tdiv (wrap64 (t468 + a1)) (wrap64 (a1 + 1))))))) else (some 0))) = some r:=h;clear h;replace H:=bS.mp H;obtain ⟨t467,A30,H⟩:=H;replace H : (if t467 = true then ((impl_NeedOf.f k l0).bind fun t468 => (if (wrap64 (a1 + 1)) = 0 then (none) else (some (wrap64 (Int.tdiv (wrap64 (t468 + a1)) (wrap64 (a1 + 1))))))) else (some 0)) = some r:=H;have A3:=am A30;clear A30
 by_cases c4 : t467 = true
 ·subst c4;have H1 : ((impl_NeedOf.f k l0).bind fun t468 => (if (wrap64 (a1 + 1)) = 0 then (none) else (some (wrap64 (Int.tdiv (wrap64 (t468 + a1)) (wrap64 (a1 + 1))))))) = some r:=by rw [if_pos rfl] at H;exact H
  clear H;have H:=H1;clear H1;replace H:=bS.mp H;obtain ⟨t468,A50,H⟩:=H;replace H : (if (wrap64 (a1 + 1)) = 0 then (none) else (some (wrap64 (Int.tdiv (wrap64 (t468 + a1)) (wrap64 (a1 + 1)))))) = some r:=H;have A5:=am A50;clear A50
  by_cases c6 : (wrap64 (a1 + 1)) = 0
  ·rw [if_pos c6] at H;exact absurd H (by simp)
  ·rw [if_neg c6] at H;have c6b0 : ((wrap64 (a1 + 1)) == 0) = false:=beq_eq_false_iff_ne.mpr c6;have c6b1 : ((wrap64 (a1 + 1)) != 0) = true:=bne_iff_ne.mpr c6;obtain rfl:=Option.some.inj H
   go_enter Try.func14,Try.ntmps14
   go_wp2_with (first | ((with_reducible refine gate_callee (f:=76) rfl ?_);refine goesL_ (some 6) rfl rfl Try.func76 (by kernel_rfl) rfl #[.int .i64 a1,.int .i64 0,.int .i64 2] rfl qq137 ?_;(with_reducible refine (impl_InRange.calls a1 0 2 true _ A3.out).mono ?_);rintro e w' ⟨rfl,⟨nd,rfl⟩⟩;refine ⟨_,rfl,?_⟩) | ((with_reducible refine gate_callee (f:=19) rfl ?_);refine goesL_ (some 9) rfl rfl Try.func19 (by kernel_rfl) rfl #[.slice A0 l0.length c0] rfl qq137 ?_;(with_reducible refine (impl_NeedOf.calls k _ _ l0 t468 _ ?side1 ?side2 A5.out).mono ?_);(case side1 => exact qq138);(case side2 => exact HC0.out);rintro e w7 ⟨rfl,hb⟩;refine ⟨_,rfl,?_⟩;replace HB:=am (below_step qq143 hb);(try clear hb);(try clear hb2);(try clear hk);(try clear hi)))
   go_ret
   exact ⟨qq180,qq143⟩
 ·replace c4:=Bool.eq_false_iff.mpr c4;subst c4;have H1 : (some 0) = some r:=by rw [if_neg (show ¬ (false = true) by decide)] at H;exact H
  clear H;have H:=H1;clear H1;obtain rfl:=Option.some.inj H
  go_enter Try.func14,Try.ntmps14
  go_wp2_with (first | ((with_reducible refine gate_callee (f:=76) rfl ?_);refine goesL_ (some 6) rfl rfl Try.func76 (by kernel_rfl) rfl #[.int .i64 a1,.int .i64 0,.int .i64 2] rfl qq137 ?_;(with_reducible refine (impl_InRange.calls a1 0 2 false _ A3.out).mono ?_);rintro e w' ⟨rfl,⟨nd,rfl⟩⟩;refine ⟨_,rfl,?_⟩))
  go_ret
  exact ⟨qq180,qq143⟩

/-! ### impl_MixedDays: function 13 -/
mutual
def impl_MixedDays.j0 : Nat → Int → Bool → Int → Int → List (S112) → List Bool → Option (Int)
 | 0,_,_,_,_,_,_ => none
 | k + 1,x1,x14,x470000,x470001,x470002,x470003 => if x14 = true then (some (-1)) else (impl_MixedDays.l0 k x1 x1 x470000 x470001 x470002 x470003)
def impl_MixedDays.l0 : Nat → Int → Int → Int → Int → List (S112) → List Bool → Option (Int)
 | 0,_,_,_,_,_,_ => none
 | k + 1,x1,x5,x470000,x470001,x470002,x470003 => if x5 ≥ 0 then ((impl_NeedAt.f k x470002 0).bind fun t472 => ((impl_NeedAt.f k x470002 1).bind fun t473 => (if (wrap64 ((wrap64 (x5 * t472)) + (wrap64 ((wrap64 (x1 - x5)) * t473)))) ≤ x470001 then (some x5) else (impl_MixedDays.l0 k x1 (wrap64 (x5 - 1)) x470000 x470001 x470002 x470003)))) else (some (-1))
end
def impl_MixedDays.f (k : Nat) (a0_0 : Int) (a0_1 : Int) (l0_2 : List (S112)) (l0_3 : List Bool) (a1 : Int) : Option (Int) := (impl_AreCrew.f k l0_2).bind fun t470 => (if t470 = true then ((impl_InRange.f a1 0 1000).bind fun t471 => (impl_MixedDays.j0 k a1 (!t471) a0_0 a0_1 l0_2 l0_3)) else (impl_MixedDays.j0 k a1 true a0_0 a0_1 l0_2 l0_3))
theorem impl_MixedDays.mono_l : ∀ k, (∀ y0 y1 y2 y3 y4 y5, LeO (impl_MixedDays.j0 k y0 y1 y2 y3 y4 y5) (impl_MixedDays.j0 (k + 1) y0 y1 y2 y3 y4 y5)) ∧ (∀ y0 y1 y2 y3 y4 y5, LeO (impl_MixedDays.l0 k y0 y1 y2 y3 y4 y5) (impl_MixedDays.l0 (k + 1) y0 y1 y2 y3 y4 y5))
 | 0 => ⟨fun _ _ _ _ _ _ r h => by simp [impl_MixedDays.j0] at h,fun _ _ _ _ _ _ r h => by simp [impl_MixedDays.l0] at h⟩
 | k + 1 => by
  obtain ⟨ih0,ih1⟩:=impl_MixedDays.mono_l k
  refine ⟨?_,?_⟩
  ·intro y0 y1 y2 y3 y4 y5
   unfold impl_MixedDays.j0
   repeat' first
   | (with_reducible exact ih0 _ _ _ _ _ _)
   | (with_reducible exact ih1 _ _ _ _ _ _)
   | (with_reducible exact impl_AreCrew.mono _ _)
   | (with_reducible exact impl_NeedAt.mono _ _ _)
   | (with_reducible exact LeO.refl _)
   | (with_reducible exact LeO.none _)
   | (with_reducible refine LeO.ite ?_ ?_)
   | (with_reducible refine LeO.bind ?_ (fun _ => ?_))
   | exact ih0 _ _ _ _ _ _
   | exact ih1 _ _ _ _ _ _
   | exact impl_AreCrew.mono _ _
   | exact impl_NeedAt.mono _ _ _
   | exact LeO.none _
   | refine LeO.ite ?_ ?_
   | refine LeO.bind ?_ (fun _ => ?_)
  ·intro y0 y1 y2 y3 y4 y5
   unfold impl_MixedDays.l0
   repeat' first
   | (with_reducible exact ih0 _ _ _ _ _ _)
   | (with_reducible exact ih1 _ _ _ _ _ _)
   | (with_reducible exact impl_AreCrew.mono _ _)
   | (with_reducible exact impl_NeedAt.mono _ _ _)
   | (with_reducible exact LeO.refl _)
   | (with_reducible exact LeO.none _)
   | (with_reducible refine LeO.ite ?_ ?_)
   | (with_reducible refine LeO.bind ?_ (fun _ => ?_))
   | exact ih0 _ _ _ _ _ _
   | exact ih1 _ _ _ _ _ _
   | exact impl_AreCrew.mono _ _
   | exact impl_NeedAt.mono _ _ _
   | exact LeO.none _
   | refine LeO.ite ?_ ?_
   | refine LeO.bind ?_ (fun _ => ?_)
theorem impl_MixedDays.mono : ∀ a0 a1 a2 a3 a4 k, LeO (impl_MixedDays.f k a0 a1 a2 a3 a4) (impl_MixedDays.f (k + 1) a0 a1 a2 a3 a4) := by
 intro a0 a1 a2 a3 a4 k
 obtain ⟨ih0,ih1⟩:=impl_MixedDays.mono_l k
 unfold impl_MixedDays.f
 repeat' first
   | (with_reducible exact ih0 _ _ _ _ _ _)
   | (with_reducible exact ih1 _ _ _ _ _ _)
   | (with_reducible exact impl_AreCrew.mono _ _)
   | (with_reducible exact impl_NeedAt.mono _ _ _)
   | (with_reducible exact LeO.refl _)
   | (with_reducible exact LeO.none _)
   | (with_reducible refine LeO.ite ?_ ?_)
   | (with_reducible refine LeO.bind ?_ (fun _ => ?_))
   | exact ih0 _ _ _ _ _ _
   | exact ih1 _ _ _ _ _ _
   | exact impl_AreCrew.mono _ _
   | exact impl_NeedAt.mono _ _ _
   | exact LeO.none _
   | refine LeO.ite ?_ ?_
   | refine LeO.bind ?_ (fun _ => ?_)
def impl_MixedDays.T6 : Bool × List (List Nat × List Nat) := (true, [([], []), ([], []), ([1], [1]), ([2], [2]), ([0, 3], [0, 3]), ([], []), ([], []), ([5, 6], [5, 6]), ([], []), ([8], [8]), ([9, 3], [9]), ([7, 10], [7, 10]), ([4, 11], [4, 11]), ([], []), ([13], [13]), ([12, 14], [12, 14])])
def impl_MixedDays.B6 : List Nat := [0, 0, 2, 6, 15, 0, 0, 96, 0, 256, 782, 2030, 4095, 0, 8192, 32767]
theorem impl_MixedDays.tab6 : rtab .any (opsOf Try.f13 6) = impl_MixedDays.T6 := by kernel_rfl
theorem impl_MixedDays.bits6 : waitsOk impl_MixedDays.T6.2 impl_MixedDays.B6 = true := by kernel_rfl
set_option maxHeartbeats 8000000 in
set_option maxRecDepth 100000 in
theorem impl_MixedDays.calls (k : Nat) (a0_0 : Int) (a0_1 : Int) (A0_2 : Option Addr) (c0_2 : Nat) (l0_2 : List (S112)) (A0_3 : Option Addr) (c0_3 : Nat) (l0_3 : List Bool) (a1 : Int) (r : Int) (w : World) (hr0_2 : Kd.C k112 w A0_2 l0_2.length l0_2) (hc0_2 : l0_2.length ≤ c0_2) (hr0_3 : Kd.C Kd.bool w A0_3 l0_3.length l0_3) (hc0_3 : l0_3.length ≤ c0_3) (h : impl_MixedDays.f k a0_0 a0_1 l0_2 l0_3 a1 = some r) :
  Calls Try.prog 13 #[.agg #[.int .i64 a0_0,.int .i64 a0_1,.slice A0_2 l0_2.length c0_2,.slice A0_3 l0_3.length c0_3],.int .i64 a1] w fun e w' => e = .returned (.int .i64 r) ∧ Below w.heap.size w w':=by
 have hu27:=Try.underlying27;have HR0_2:=am hr0_2;have HC0_2:=am hc0_2;clear hr0_2 hc0_2;have HR0_3:=am hr0_3;have HC0_3:=am hc0_3;clear hr0_3 hc0_3;have HB:=am (Below.refl w.heap.size w);have H : ((impl_AreCrew.f k l0_2).bind fun t470 => (if t470 = true then ((impl_InRange.f a1 0 1000).bind fun t471 => (impl_MixedDays.j0 k a1 (!t471) a0_0 a0_1 l0_2 l0_3)) else (impl_MixedDays.j0 k a1 true a0_0 a0_1 l0_2 l0_3))) = some r:=h;clear h;have HC3:=am H;clear H
 go_enter Try.func13,Try.ntmps13
 go_upto_region 1 with (first | ((with_reducible refine gate_dst (N:=2) rfl ?_);refine box_event ?hg (N:=2) ?hd (cs:=#[.int .i64 a0_0,.int .i64 a0_1,.slice A0_2 l0_2.length c0_2,.slice A0_3 l0_3.length c0_3]) (t:=27) ?hr ?_;(case hd => rfl);(case hg => rfl);(case hr => exact qq226);intro gb469 hg w4 hbox hb;have BK469:=am (hbox);have GW469:=am ((qq119 : w.heap.size ≤ gb469));have GE469:=am ((qq119 : w.heap.size ≤ gb469));replace HB:=am (below_step qq143 hb);clear hb hbox hg))
 (try simp only [Act.put,sA,s0,s1])
 go_cut [14] (fun v14 wc => ∃ (kq : Nat) (x14_2 : Bool),v14 = .bool x14_2 ∧ Aside0 (impl_MixedDays.j0 kq a1 x14_2 a0_0 a0_1 l0_2 l0_3 = some r) ∧ Aside0 (kq ≤ k) ∧ Aside0 (wc.heap[gb469]? = some (.cells #[.int .i64 a0_0,.int .i64 a0_1,(.slice A0_2 l0_2.length c0_2),(.slice A0_3 l0_3.length c0_3)] 27 (0,0))) ∧ Aside0 (Below w.heap.size w wc))
 case first =>
  have H:=HC3.out;clear HC3;replace H:=bS.mp H;obtain ⟨t470,A50,H⟩:=H;replace H : (if t470 = true then ((impl_InRange.f a1 0 1000).bind fun t471 => (impl_MixedDays.j0 k a1 (!t471) a0_0 a0_1 l0_2 l0_3)) else (impl_MixedDays.j0 k a1 true a0_0 a0_1 l0_2 l0_3)) = some r:=H;have A5:=am A50;clear A50
  by_cases c6 : t470 = true
  ·subst c6;have H1 : ((impl_InRange.f a1 0 1000).bind fun t471 => (impl_MixedDays.j0 k a1 (!t471) a0_0 a0_1 l0_2 l0_3)) = some r:=by rw [if_pos rfl] at H;exact H
   clear H;have H:=H1;clear H1;replace H:=bS.mp H;obtain ⟨t471,A70,H⟩:=H;replace H : (impl_MixedDays.j0 k a1 (!t471) a0_0 a0_1 l0_2 l0_3) = some r:=H;have A7:=am A70;clear A70;have H':=am H;clear H;obtain ⟨hcz8_0,hcz8_1,hcz8_2,hcz8_3,hfz8_0,hfz8_1,hfz8_2,hfz8_3⟩:=bcl4 BK469.out;go_wp2_with (first | ((with_reducible refine gate_callee (f:=75) rfl ?_);refine goesL_ (some 8) rfl rfl Try.func75 (by kernel_rfl) rfl #[.slice A0_2 l0_2.length c0_2] rfl qq137 ?_;(with_reducible refine (impl_AreCrew.calls k _ _ l0_2 true _ ?side1 ?side2 A5.out).mono ?_);(case side1 => exact qq104);(case side2 => exact qq240);rintro e w9 ⟨rfl,hb⟩;refine ⟨_,rfl,?_⟩;replace BK469:=am (blk_below (g:=gb469) (o:=.cells #[.int .i64 a0_0,.int .i64 a0_1,.slice A0_2 l0_2.length c0_2,.slice A0_3 l0_3.length c0_3] 27 (0,0)) qq150 hb);replace HB:=am (below_step qq124 hb);(try clear hb);(try clear hb2);(try clear hk);(try clear hi)) | (go_at_call 76;(with_reducible refine (impl_InRange.calls a1 0 1000 t471 _ A7.out).mono ?_);rintro e w' ⟨rfl,⟨nd,rfl⟩⟩))
   go_meet
   case rel => exact ⟨_,(!t471),qq225,H',⟨qq230⟩,⟨qq150⟩,⟨qq124⟩⟩
  ·replace c6:=Bool.eq_false_iff.mpr c6;subst c6;have H1 : (impl_MixedDays.j0 k a1 true a0_0 a0_1 l0_2 l0_3) = some r:=by rw [if_neg (show ¬ (false = true) by decide)] at H;exact H
   clear H;have H:=H1;clear H1;have H':=am H;clear H;obtain ⟨hcz10_0,hcz10_1,hcz10_2,hcz10_3,hfz10_0,hfz10_1,hfz10_2,hfz10_3⟩:=bcl4 BK469.out;go_wp2_with (first | ((with_reducible refine gate_callee (f:=75) rfl ?_);refine goesL_ (some 8) rfl rfl Try.func75 (by kernel_rfl) rfl #[.slice A0_2 l0_2.length c0_2] rfl qq137 ?_;(with_reducible refine (impl_AreCrew.calls k _ _ l0_2 false _ ?side1 ?side2 A5.out).mono ?_);(case side1 => exact qq104);(case side2 => exact qq240);rintro e w11 ⟨rfl,hb⟩;refine ⟨_,rfl,?_⟩;replace BK469:=am (blk_below (g:=gb469) (o:=.cells #[.int .i64 a0_0,.int .i64 a0_1,.slice A0_2 l0_2.length c0_2,.slice A0_3 l0_3.length c0_3] 27 (0,0)) qq150 hb);replace HB:=am (below_step qq124 hb);(try clear hb);(try clear hb2);(try clear hk);(try clear hi)))
   go_meet
   case rel => exact ⟨_,(true),qq225,H',⟨qq230⟩,⟨qq150⟩,⟨qq124⟩⟩
 case rest =>
  clear HC3
  try clear c1
  try clear p2
  try clear c6
  try clear c7
  try clear hcz10_0
  try clear hcz10_1
  try clear hcz10_2
  try clear hcz10_3
  try clear hcz8_0
  try clear hcz8_1
  try clear hcz8_2
  try clear hcz8_3
  try clear hfz10_0
  try clear hfz10_1
  try clear hfz10_2
  try clear hfz10_3
  try clear hfz8_0
  try clear hfz8_1
  try clear hfz8_2
  try clear hfz8_3
  obtain ⟨kq,x14_2,rfl,HA,HJ2,BK469,HB⟩:=hcut
  cases kq with
  | zero => exact absurd HA.out (by simp [impl_MixedDays.j0])
  | succ kj2 =>
   have H:=HA.out;clear HA;simp only [impl_MixedDays.j0] at H
   by_cases c12 : x14_2 = true
   ·subst c12;have H1 : (some (-1)) = some r:=by rw [if_pos rfl] at H;exact H
    clear H;have H:=H1;clear H1;obtain rfl:=Option.some.inj H;go_wp2
    go_ret
    exact ⟨qq180,qq124⟩
   ·replace c12:=Bool.eq_false_iff.mpr c12;subst c12;have H1 : (impl_MixedDays.l0 kj2 a1 a1 a0_0 a0_1 l0_2 l0_3) = some r:=by rw [if_neg (show ¬ (false = true) by decide)] at H;exact H
    clear H;have H:=H1;clear H1;have H':=am H;clear H;go_wp2
    go_loopg [5] kj2 (fun kq v5 w' => ∃ (x5_2 : Int),v5 = .int .i64 x5_2 ∧ Aside0 (impl_MixedDays.l0 kq a1 x5_2 a0_0 a0_1 l0_2 l0_3 = some r) ∧ Aside0 (kq ≤ kj2) ∧ Aside0 (w'.heap[gb469]? = some (.cells #[.int .i64 a0_0,.int .i64 a0_1,(.slice A0_2 l0_2.length c0_2),(.slice A0_3 l0_3.length c0_3)] 27 (0,0))) ∧ Aside0 (Below w.heap.size w w'))
    case atStart => exact ⟨(a1),qq225,H',⟨Nat.le_refl _⟩,⟨qq150⟩,⟨qq124⟩⟩
    case round =>
     clear H'
     try clear c1
     try clear p2
     try clear c6
     try clear c7
     try clear c12
     try clear hcz10_0
     try clear hcz10_1
     try clear hcz10_2
     try clear hcz10_3
     try clear hcz8_0
     try clear hcz8_1
     try clear hcz8_2
     try clear hcz8_3
     try clear hfz10_0
     try clear hfz10_1
     try clear hfz10_2
     try clear hfz10_3
     try clear hfz8_0
     try clear hfz8_1
     try clear hfz8_2
     try clear hfz8_3
     try clear p2
     obtain ⟨x5_2,rfl,HA,HK2,BK469,HB⟩:=hrel
     cases gk with
     | zero => exact absurd HA.out (by simp [impl_MixedDays.l0])
     | succ k2 =>
      have H:=HA.out;clear HA;simp only [impl_MixedDays.l0] at H
      by_cases c13 : x5_2 ≥ 0
      ·rw [if_pos c13] at H;have c13b0 : decide (0 ≤ x5_2) = true:=decide_eq_true c13;clear c13;replace H:=bS.mp H;obtain ⟨t472,A140,H⟩:=H;replace H : ((impl_NeedAt.f k2 l0_2 1).bind fun t473 => (if (wrap64 ((wrap64 (x5_2 * t472)) + (wrap64 ((wrap64 (a1 - x5_2)) * t473)))) ≤ a0_1 then (some x5_2) else (impl_MixedDays.l0 k2 a1 (wrap64 (x5_2 - 1)) a0_0 a0_1 l0_2 l0_3))) = some r:=H;have A14:=am A140;clear A140;replace H:=bS.mp H;obtain ⟨t473,A150,H⟩:=H;replace H : (if (wrap64 ((wrap64 (x5_2 * t472)) + (wrap64 ((wrap64 (a1 - x5_2)) * t473)))) ≤ a0_1 then (some x5_2) else (impl_MixedDays.l0 k2 a1 (wrap64 (x5_2 - 1)) a0_0 a0_1 l0_2 l0_3)) = some r:=H;have A15:=am A150;clear A150
       by_cases c16 : (wrap64 ((wrap64 (x5_2 * t472)) + (wrap64 ((wrap64 (a1 - x5_2)) * t473)))) ≤ a0_1
       ·rw [if_pos c16] at H;have c16b0 : decide ((wrap64 ((wrap64 (x5_2 * t472)) + (wrap64 ((wrap64 (a1 - x5_2)) * t473)))) ≤ a0_1) = true:=decide_eq_true c16;clear c16;obtain rfl:=Option.some.inj H
        try go_wp2
        replace BK469:=am (blk_drew BK469.out);replace HB:=am (below_drew1 HB.out);refine start_ (n:=16) (S:=fun w' => w'.cell? ⟨gb469,0,none⟩ = some (.int .i64 a0_0) ∧ w'.cell? ⟨gb469,1,none⟩ = some (.int .i64 a0_1) ∧ w'.cell? ⟨gb469,2,none⟩ = some (.slice A0_2 l0_2.length c0_2) ∧ w'.cell? ⟨gb469,3,none⟩ = some (.slice A0_3 l0_3.length c0_3)) (ds:=[]) #[Z,Z,Z,Z,Z,Z,Z,Z,Z,Z,Z,Z,Z,Z,Z,Z] (by kernel_rfl) rfl rfl ⟨(blk_cell BK469.out 0).trans rfl,(blk_cell BK469.out 1).trans rfl,(blk_cell BK469.out 2).trans rfl,(blk_cell BK469.out 3).trans rfl⟩ (fun hHeld => ?_);refine with_tabW impl_MixedDays.tab6 impl_MixedDays.bits6 (fun HT_ HW_ => ?_)
        generalize wr.drew = w17 at BK469 HB hHeld ⊢
        refine pV (i:=0) (N:=some 20) #[Y,Z,Z,Z,Z,Z,Z,Z,Z,Z,Z,Z,Z,Z,Z,Z] rfl rfl qT ?_
        refine pV (i:=1) (N:=some 21) #[Y,Y,Z,Z,Z,Z,Z,Z,Z,Z,Z,Z,Z,Z,Z,Z] rfl rfl qT ?_
        refine pV (i:=5) (N:=some 25) #[Y,Y,Z,Z,Z,Y,Z,Z,Z,Z,Z,Z,Z,Z,Z,Z] rfl rfl qT ?_
        refine pV (i:=6) (N:=some 26) #[Y,Y,Z,Z,Z,Y,Y,Z,Z,Z,Z,Z,Z,Z,Z,Z] rfl rfl qT ?_
        refine pV (i:=7) (N:=some 27) #[Y,Y,Z,Z,Z,Y,Y,Y,Z,Z,Z,Z,Z,Z,Z,Z] rfl rfl qT ?_
        refine pV (i:=8) (N:=some 28) #[Y,Y,Z,Z,Z,Y,Y,Y,Y,Z,Z,Z,Z,Z,Z,Z] rfl rfl qT ?_
        refine pV (i:=13) (N:=some 33) #[Y,Y,Z,Z,Z,Y,Y,Y,Y,Z,Z,Z,Z,Y,Z,Z] rfl rfl qT ?_
        refine tV4 (i:=2) (N:=some 22) #[Y,Y,Y,Z,Z,Y,Y,Y,Y,Z,Z,Z,Z,Y,Z,Z] rfl rfl (take_ofW HT_.out HW_.out (by kernel_rfl)) hHeld ?_
        refine tV4 (i:=9) (N:=some 29) #[Y,Y,Y,Z,Z,Y,Y,Y,Y,Y,Z,Z,Z,Y,Z,Z] rfl rfl (take_ofW HT_.out HW_.out (by kernel_rfl)) hHeld ?_
        refine tV4 (i:=14) (N:=some 34) #[Y,Y,Y,Z,Z,Y,Y,Y,Y,Y,Z,Z,Z,Y,Y,Z] rfl rfl (take_ofW HT_.out HW_.out (by kernel_rfl)) hHeld ?_
        refine one_ (i:=3) (N:=some 23) #[Y,Y,Y,Y,Z,Y,Y,Y,Y,Y,Z,Z,Z,Y,Y,Z] rfl rfl (one_of HT_.out (by kernel_rfl)) (by decide) (fun K hK => ?_);refine goes_ Try.func14 (by kernel_rfl) rfl #[.slice A0_2 l0_2.length c0_2,.int .i64 0] (by rfl) rfl rfl qq137 ?_;with_reducible refine (impl_NeedAt.calls k2 _ _ l0_2 0 t472 _ ?side1 ?side2 A14.out).mono ?_
        (case side1 => exact qq104);(case side2 => exact qq240)
        rintro e w18 ⟨rfl,hb⟩
        refine ⟨_,rfl,?_⟩;replace BK469:=am (blk_below (g:=gb469) (o:=.cells #[.int .i64 a0_0,.int .i64 a0_1,.slice A0_2 l0_2.length c0_2,.slice A0_3 l0_3.length c0_3] 27 (0,0)) qq150 hb);replace HB:=am (below_step qq124 hb);(try clear hb);(try clear hb2);(try clear hk);(try clear hi);refine hK.out _ _ ⟨(blk_cell BK469.out 0).trans rfl,(blk_cell BK469.out 1).trans rfl,(blk_cell BK469.out 2).trans rfl,(blk_cell BK469.out 3).trans rfl⟩ (fun hHeld => ?_);clear hK K;refine norm_ (a':=?_) ?_ ?_;rotate_left
        ·show Act.put _ (some 23) _ = _
         simp only [Act.put,sA,s0,s1,i64_w,i32_w];rfl
        refine pV (i:=4) (N:=some 24) #[Y,Y,Y,Y,Y,Y,Y,Y,Y,Y,Z,Z,Z,Y,Y,Z] rfl rfl qT ?_
        refine one_ (i:=10) (N:=some 30) #[Y,Y,Y,Y,Y,Y,Y,Y,Y,Y,Y,Z,Z,Y,Y,Z] rfl rfl (one_of HT_.out (by kernel_rfl)) (by decide) (fun K hK => ?_);refine goes_ Try.func14 (by kernel_rfl) rfl #[.slice A0_2 l0_2.length c0_2,.int .i64 1] (by rfl) rfl rfl qq137 ?_;with_reducible refine (impl_NeedAt.calls k2 _ _ l0_2 1 t473 _ ?side1 ?side2 A15.out).mono ?_
        (case side1 => exact qq104);(case side2 => exact qq240)
        rintro e w19 ⟨rfl,hb⟩
        refine ⟨_,rfl,?_⟩;replace BK469:=am (blk_below (g:=gb469) (o:=.cells #[.int .i64 a0_0,.int .i64 a0_1,.slice A0_2 l0_2.length c0_2,.slice A0_3 l0_3.length c0_3] 27 (0,0)) qq150 hb);replace HB:=am (below_step qq124 hb);(try clear hb);(try clear hb2);(try clear hk);(try clear hi);refine hK.out _ _ ⟨(blk_cell BK469.out 0).trans rfl,(blk_cell BK469.out 1).trans rfl,(blk_cell BK469.out 2).trans rfl,(blk_cell BK469.out 3).trans rfl⟩ (fun hHeld => ?_);clear hK K;refine norm_ (a':=?_) ?_ ?_;rotate_left
        ·show Act.put _ (some 30) _ = _
         simp only [Act.put,sA,s0,s1,i64_w,i32_w];rfl
        refine pV (i:=11) (N:=some 31) #[Y,Y,Y,Y,Y,Y,Y,Y,Y,Y,Y,Y,Z,Y,Y,Z] rfl rfl qT ?_
        refine pV (i:=12) (N:=some 32) #[Y,Y,Y,Y,Y,Y,Y,Y,Y,Y,Y,Y,Y,Y,Y,Z] rfl rfl qT ?_
        refine pV (i:=15) (N:=some 35) #[Y,Y,Y,Y,Y,Y,Y,Y,Y,Y,Y,Y,Y,Y,Y,Y] rfl rfl qT ?_
        refine done_ (done_of HT_.out (by kernel_rfl)) ?_
        try go_wp2
        go_ret
        exact ⟨qq180,qq124⟩
       ·rw [if_neg c16] at H;have c16b0 : decide ((wrap64 ((wrap64 (x5_2 * t472)) + (wrap64 ((wrap64 (a1 - x5_2)) * t473)))) ≤ a0_1) = false:=decide_eq_false c16;clear c16;have H':=am H;clear H
        try go_wp2
        replace BK469:=am (blk_drew BK469.out);replace HB:=am (below_drew1 HB.out);refine start_ (n:=16) (S:=fun w' => w'.cell? ⟨gb469,0,none⟩ = some (.int .i64 a0_0) ∧ w'.cell? ⟨gb469,1,none⟩ = some (.int .i64 a0_1) ∧ w'.cell? ⟨gb469,2,none⟩ = some (.slice A0_2 l0_2.length c0_2) ∧ w'.cell? ⟨gb469,3,none⟩ = some (.slice A0_3 l0_3.length c0_3)) (ds:=[]) #[Z,Z,Z,Z,Z,Z,Z,Z,Z,Z,Z,Z,Z,Z,Z,Z] (by kernel_rfl) rfl rfl ⟨(blk_cell BK469.out 0).trans rfl,(blk_cell BK469.out 1).trans rfl,(blk_cell BK469.out 2).trans rfl,(blk_cell BK469.out 3).trans rfl⟩ (fun hHeld => ?_);refine with_tabW impl_MixedDays.tab6 impl_MixedDays.bits6 (fun HT_ HW_ => ?_)
        generalize wr.drew = w20 at BK469 HB hHeld ⊢
        refine pV (i:=0) (N:=some 20) #[Y,Z,Z,Z,Z,Z,Z,Z,Z,Z,Z,Z,Z,Z,Z,Z] rfl rfl qT ?_
        refine pV (i:=1) (N:=some 21) #[Y,Y,Z,Z,Z,Z,Z,Z,Z,Z,Z,Z,Z,Z,Z,Z] rfl rfl qT ?_
        refine pV (i:=5) (N:=some 25) #[Y,Y,Z,Z,Z,Y,Z,Z,Z,Z,Z,Z,Z,Z,Z,Z] rfl rfl qT ?_
        refine pV (i:=6) (N:=some 26) #[Y,Y,Z,Z,Z,Y,Y,Z,Z,Z,Z,Z,Z,Z,Z,Z] rfl rfl qT ?_
        refine pV (i:=7) (N:=some 27) #[Y,Y,Z,Z,Z,Y,Y,Y,Z,Z,Z,Z,Z,Z,Z,Z] rfl rfl qT ?_
        refine pV (i:=8) (N:=some 28) #[Y,Y,Z,Z,Z,Y,Y,Y,Y,Z,Z,Z,Z,Z,Z,Z] rfl rfl qT ?_
        refine pV (i:=13) (N:=some 33) #[Y,Y,Z,Z,Z,Y,Y,Y,Y,Z,Z,Z,Z,Y,Z,Z] rfl rfl qT ?_
        refine tV4 (i:=2) (N:=some 22) #[Y,Y,Y,Z,Z,Y,Y,Y,Y,Z,Z,Z,Z,Y,Z,Z] rfl rfl (take_ofW HT_.out HW_.out (by kernel_rfl)) hHeld ?_
        refine tV4 (i:=9) (N:=some 29) #[Y,Y,Y,Z,Z,Y,Y,Y,Y,Y,Z,Z,Z,Y,Z,Z] rfl rfl (take_ofW HT_.out HW_.out (by kernel_rfl)) hHeld ?_
        refine tV4 (i:=14) (N:=some 34) #[Y,Y,Y,Z,Z,Y,Y,Y,Y,Y,Z,Z,Z,Y,Y,Z] rfl rfl (take_ofW HT_.out HW_.out (by kernel_rfl)) hHeld ?_
        refine one_ (i:=3) (N:=some 23) #[Y,Y,Y,Y,Z,Y,Y,Y,Y,Y,Z,Z,Z,Y,Y,Z] rfl rfl (one_of HT_.out (by kernel_rfl)) (by decide) (fun K hK => ?_);refine goes_ Try.func14 (by kernel_rfl) rfl #[.slice A0_2 l0_2.length c0_2,.int .i64 0] (by rfl) rfl rfl qq137 ?_;with_reducible refine (impl_NeedAt.calls k2 _ _ l0_2 0 t472 _ ?side1 ?side2 A14.out).mono ?_
        (case side1 => exact qq104);(case side2 => exact qq240)
        rintro e w21 ⟨rfl,hb⟩
        refine ⟨_,rfl,?_⟩;replace BK469:=am (blk_below (g:=gb469) (o:=.cells #[.int .i64 a0_0,.int .i64 a0_1,.slice A0_2 l0_2.length c0_2,.slice A0_3 l0_3.length c0_3] 27 (0,0)) qq150 hb);replace HB:=am (below_step qq124 hb);(try clear hb);(try clear hb2);(try clear hk);(try clear hi);refine hK.out _ _ ⟨(blk_cell BK469.out 0).trans rfl,(blk_cell BK469.out 1).trans rfl,(blk_cell BK469.out 2).trans rfl,(blk_cell BK469.out 3).trans rfl⟩ (fun hHeld => ?_);clear hK K;refine norm_ (a':=?_) ?_ ?_;rotate_left
        ·show Act.put _ (some 23) _ = _
         simp only [Act.put,sA,s0,s1,i64_w,i32_w];rfl
        refine pV (i:=4) (N:=some 24) #[Y,Y,Y,Y,Y,Y,Y,Y,Y,Y,Z,Z,Z,Y,Y,Z] rfl rfl qT ?_
        refine one_ (i:=10) (N:=some 30) #[Y,Y,Y,Y,Y,Y,Y,Y,Y,Y,Y,Z,Z,Y,Y,Z] rfl rfl (one_of HT_.out (by kernel_rfl)) (by decide) (fun K hK => ?_);refine goes_ Try.func14 (by kernel_rfl) rfl #[.slice A0_2 l0_2.length c0_2,.int .i64 1] (by rfl) rfl rfl qq137 ?_;with_reducible refine (impl_NeedAt.calls k2 _ _ l0_2 1 t473 _ ?side1 ?side2 A15.out).mono ?_
        (case side1 => exact qq104);(case side2 => exact qq240)
        rintro e w22 ⟨rfl,hb⟩
        refine ⟨_,rfl,?_⟩;replace BK469:=am (blk_below (g:=gb469) (o:=.cells #[.int .i64 a0_0,.int .i64 a0_1,.slice A0_2 l0_2.length c0_2,.slice A0_3 l0_3.length c0_3] 27 (0,0)) qq150 hb);replace HB:=am (below_step qq124 hb);(try clear hb);(try clear hb2);(try clear hk);(try clear hi);refine hK.out _ _ ⟨(blk_cell BK469.out 0).trans rfl,(blk_cell BK469.out 1).trans rfl,(blk_cell BK469.out 2).trans rfl,(blk_cell BK469.out 3).trans rfl⟩ (fun hHeld => ?_);clear hK K;refine norm_ (a':=?_) ?_ ?_;rotate_left
        ·show Act.put _ (some 30) _ = _
         simp only [Act.put,sA,s0,s1,i64_w,i32_w];rfl
        refine pV (i:=11) (N:=some 31) #[Y,Y,Y,Y,Y,Y,Y,Y,Y,Y,Y,Y,Z,Y,Y,Z] rfl rfl qT ?_
        refine pV (i:=12) (N:=some 32) #[Y,Y,Y,Y,Y,Y,Y,Y,Y,Y,Y,Y,Y,Y,Y,Z] rfl rfl qT ?_
        refine pV (i:=15) (N:=some 35) #[Y,Y,Y,Y,Y,Y,Y,Y,Y,Y,Y,Y,Y,Y,Y,Y] rfl rfl qT ?_
        refine done_ (done_of HT_.out (by kernel_rfl)) ?_
        try go_wp2
        go_roundg k2
        case measure => have:=HJ2.out;have:=HK2.out;omega
        case rel => exact ⟨(wrap64 (x5_2 - 1)),qq225,H',⟨by have:=HJ2.out;have:=HK2.out;omega⟩,⟨qq150⟩,⟨qq124⟩⟩
      ·rw [if_neg c13] at H;have c13b0 : decide (0 ≤ x5_2) = false:=decide_eq_false c13;clear c13;obtain rfl:=Option.some.inj H;go_wp2
       go_ret
       exact ⟨qq180,qq124⟩

end Go.Proofs.Ytcbkknpmeknppaa.PFnRations
