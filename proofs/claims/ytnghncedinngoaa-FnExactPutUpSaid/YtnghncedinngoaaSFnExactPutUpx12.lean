/- Contracts of functions that the law FnExactPutUp reaches, for its row: lines that the kit's printer wrote for this claim, set shorter by a program of this session (own.py), and what fell in Lean proved anew. Lean checks them. -/
import Derived.Test.YtnghncedinngoaaSFnExactPutUpx0
namespace Go.Proofs.Ytnghncedinngoaa.PFnExactPutUp
open Go.RowKit Go.Proofs.YtnghncedinngoaaW.PrintWords Go.Proofs.YtnghncedinngoaaW.PrintLast Go.Proofs.YtnghncedinngoaaW.PrintMore
attribute [local go_sem] max2_int min2_int max_two min_two max_three min_three max_four min_four   -- for this text's walks alone
set_option linter.unusedVariables false
set_option linter.unusedSimpArgs false

/-! ### laws_eqMember: function 38 -/
def laws_eqMember.f (a0_0 : Int) (a0_1 : Int) (a0_2 : Int) (a0_3 : Bool) (a1_0 : Int) (a1_1 : Int) (a1_2 : Int) (a1_3 : Bool) : Option (Bool) := if a0_0 = a1_0 then (if a0_1 = a1_1 then (if a0_2 = a1_2 then (if (a0_3 != a1_3) = true then (some false) else (some true)) else (some false)) else (some false)) else (some false)
set_option maxHeartbeats 8000000 in
set_option maxRecDepth 100000 in
theorem laws_eqMember.calls (a0_0 : Int) (a0_1 : Int) (a0_2 : Int) (a0_3 : Bool) (a1_0 : Int) (a1_1 : Int) (a1_2 : Int) (a1_3 : Bool) (r : Bool) (w : World) (h : laws_eqMember.f a0_0 a0_1 a0_2 a0_3 a1_0 a1_1 a1_2 a1_3 = some r) :
  Calls Try.prog 38 #[.agg #[.int .i64 a0_0,.int .i64 a0_1,.int .i64 a0_2,.bool a0_3],.agg #[.int .i64 a1_0,.int .i64 a1_1,.int .i64 a1_2,.bool a1_3]] w fun e w' => e = .returned (.bool r) ∧ Below w.heap.size w w':=by
 have hu49:=Try.underlying49;have HB:=am qq130;have H : (if a0_0 = a1_0 then (if a0_1 = a1_1 then (if a0_2 = a1_2 then (if (a0_3 != a1_3) = true then (some false) else (some true)) else (some false)) else (some false)) else (some false)) = some r:=h;clear h
 by_cases c3 : a0_0 = a1_0
 ·rw [if_pos c3] at H;have c3b0 : (a0_0 == a1_0) = true:=beq_iff_eq.mpr c3;have c3b1 : (a0_0 != a1_0) = false:=bne_eq_false_iff_eq.mpr c3;clear c3
  by_cases c4 : a0_1 = a1_1
  ·rw [if_pos c4] at H;have c4b0 : (a0_1 == a1_1) = true:=beq_iff_eq.mpr c4;have c4b1 : (a0_1 != a1_1) = false:=bne_eq_false_iff_eq.mpr c4;clear c4
   by_cases c5 : a0_2 = a1_2
   ·rw [if_pos c5] at H;have c5b0 : (a0_2 == a1_2) = true:=beq_iff_eq.mpr c5;have c5b1 : (a0_2 != a1_2) = false:=bne_eq_false_iff_eq.mpr c5;clear c5
    by_cases c6 : (a0_3 != a1_3) = true
    ·rw [if_pos c6] at H;have c6b0 : (a0_3 != a1_3) = true:=c6;(try (have c6b1 : decide (a0_3 = a1_3) = false:=by simpa using c6));(try (have c6b2 : (a0_3 == a1_3) = false:=by simpa using c6));(try (have c6b3 : ¬ (a0_3 = a1_3):=by simpa using c6));clear c6;obtain rfl:=Option.some.inj H
     go_enter Try.func38,Try.ntmps38
     go_wp2_with (first | ((with_reducible refine gate_dst (N:=2) rfl ?_);refine box_event ?hg (N:=2) ?hd (cs:=#[.int .i64 a0_0,.int .i64 a0_1,.int .i64 a0_2,.bool a0_3]) (t:=49) ?hr ?_;(case hd => rfl);(case hg => rfl);(case hr => exact qq103);intro gb292 hg w7 hbox hb;have BK292:=am (hbox);have GW292:=am qq128;have GE292:=am qq128;replace HB:=am qq133;clear hb hbox hg) | ((with_reducible refine gate_dst (N:=3) rfl ?_);refine box_event ?hg (N:=3) ?hd (cs:=#[.int .i64 a1_0,.int .i64 a1_1,.int .i64 a1_2,.bool a1_3]) (t:=49) ?hr ?_;(case hd => rfl);(case hg => rfl);(case hr => exact qq103);intro gb293 hg w8 hbox hb;have BK293:=am (hbox);have GW293:=am qq129;have GE293:=am qq129;replace HB:=am (below_step qq51 hb);have NB292_293:=am qq131;have NB293_292:=am qq132;replace BK292:=am qq115;clear hb hbox hg;have hnb9:=NB292_293.out;have hnc9:=NB293_292.out;obtain ⟨hcz10_0,hcz10_1,hcz10_2,hcz10_3,hfz10_0,hfz10_1,hfz10_2,hfz10_3⟩:=bcl4 BK292.out;obtain ⟨hcz11_0,hcz11_1,hcz11_2,hcz11_3,hfz11_0,hfz11_1,hfz11_2,hfz11_3⟩:=bcl4 BK293.out))
     go_ret
     exact ⟨qq89,qq28⟩
    ·rw [if_neg c6] at H;have c6b0 : (a0_3 != a1_3) = false:=by simpa using c6
     (try (have c6b1 : decide (a0_3 = a1_3) = true:=by simpa using c6));(try (have c6b2 : (a0_3 == a1_3) = true:=by simpa using c6));clear c6;obtain rfl:=Option.some.inj H
     go_enter Try.func38,Try.ntmps38
     go_wp2_with (first | ((with_reducible refine gate_dst (N:=2) rfl ?_);refine box_event ?hg (N:=2) ?hd (cs:=#[.int .i64 a0_0,.int .i64 a0_1,.int .i64 a0_2,.bool a0_3]) (t:=49) ?hr ?_;(case hd => rfl);(case hg => rfl);(case hr => exact qq103);intro gb292 hg w12 hbox hb;have BK292:=am (hbox);have GW292:=am qq128;have GE292:=am qq128;replace HB:=am qq133;clear hb hbox hg) | ((with_reducible refine gate_dst (N:=3) rfl ?_);refine box_event ?hg (N:=3) ?hd (cs:=#[.int .i64 a1_0,.int .i64 a1_1,.int .i64 a1_2,.bool a1_3]) (t:=49) ?hr ?_;(case hd => rfl);(case hg => rfl);(case hr => exact qq103);intro gb293 hg w13 hbox hb;have BK293:=am (hbox);have GW293:=am qq129;have GE293:=am qq129;replace HB:=am (below_step qq51 hb);have NB292_293:=am qq131;have NB293_292:=am qq132;replace BK292:=am qq115;clear hb hbox hg;have hnb14:=NB292_293.out;have hnc14:=NB293_292.out;obtain ⟨hcz15_0,hcz15_1,hcz15_2,hcz15_3,hfz15_0,hfz15_1,hfz15_2,hfz15_3⟩:=bcl4 BK292.out;obtain ⟨hcz16_0,hcz16_1,hcz16_2,hcz16_3,hfz16_0,hfz16_1,hfz16_2,hfz16_3⟩:=bcl4 BK293.out))
     go_ret
     exact ⟨qq89,qq28⟩
   ·rw [if_neg c5] at H;have c5b0 : (a0_2 == a1_2) = false:=beq_eq_false_iff_ne.mpr c5;have c5b1 : (a0_2 != a1_2) = true:=bne_iff_ne.mpr c5;obtain rfl:=Option.some.inj H
    go_enter Try.func38,Try.ntmps38
    go_wp2_with (first | ((with_reducible refine gate_dst (N:=2) rfl ?_);refine box_event ?hg (N:=2) ?hd (cs:=#[.int .i64 a0_0,.int .i64 a0_1,.int .i64 a0_2,.bool a0_3]) (t:=49) ?hr ?_;(case hd => rfl);(case hg => rfl);(case hr => exact qq103);intro gb292 hg w17 hbox hb;have BK292:=am (hbox);have GW292:=am qq128;have GE292:=am qq128;replace HB:=am qq133;clear hb hbox hg) | ((with_reducible refine gate_dst (N:=3) rfl ?_);refine box_event ?hg (N:=3) ?hd (cs:=#[.int .i64 a1_0,.int .i64 a1_1,.int .i64 a1_2,.bool a1_3]) (t:=49) ?hr ?_;(case hd => rfl);(case hg => rfl);(case hr => exact qq103);intro gb293 hg w18 hbox hb;have BK293:=am (hbox);have GW293:=am qq129;have GE293:=am qq129;replace HB:=am (below_step qq51 hb);have NB292_293:=am qq131;have NB293_292:=am qq132;replace BK292:=am qq115;clear hb hbox hg;have hnb19:=NB292_293.out;have hnc19:=NB293_292.out;obtain ⟨hcz20_0,hcz20_1,hcz20_2,hcz20_3,hfz20_0,hfz20_1,hfz20_2,hfz20_3⟩:=bcl4 BK292.out;obtain ⟨hcz21_0,hcz21_1,hcz21_2,hcz21_3,hfz21_0,hfz21_1,hfz21_2,hfz21_3⟩:=bcl4 BK293.out))
    go_ret
    exact ⟨qq89,qq28⟩
  ·rw [if_neg c4] at H;have c4b0 : (a0_1 == a1_1) = false:=beq_eq_false_iff_ne.mpr c4;have c4b1 : (a0_1 != a1_1) = true:=bne_iff_ne.mpr c4;obtain rfl:=Option.some.inj H
   go_enter Try.func38,Try.ntmps38
   go_wp2_with (first | ((with_reducible refine gate_dst (N:=2) rfl ?_);refine box_event ?hg (N:=2) ?hd (cs:=#[.int .i64 a0_0,.int .i64 a0_1,.int .i64 a0_2,.bool a0_3]) (t:=49) ?hr ?_;(case hd => rfl);(case hg => rfl);(case hr => exact qq103);intro gb292 hg w22 hbox hb;have BK292:=am (hbox);have GW292:=am qq128;have GE292:=am qq128;replace HB:=am qq133;clear hb hbox hg) | ((with_reducible refine gate_dst (N:=3) rfl ?_);refine box_event ?hg (N:=3) ?hd (cs:=#[.int .i64 a1_0,.int .i64 a1_1,.int .i64 a1_2,.bool a1_3]) (t:=49) ?hr ?_;(case hd => rfl);(case hg => rfl);(case hr => exact qq103);intro gb293 hg w23 hbox hb;have BK293:=am (hbox);have GW293:=am qq129;have GE293:=am qq129;replace HB:=am (below_step qq51 hb);have NB292_293:=am qq131;have NB293_292:=am qq132;replace BK292:=am qq115;clear hb hbox hg;have hnb24:=NB292_293.out;have hnc24:=NB293_292.out;obtain ⟨hcz25_0,hcz25_1,hcz25_2,hcz25_3,hfz25_0,hfz25_1,hfz25_2,hfz25_3⟩:=bcl4 BK292.out;obtain ⟨hcz26_0,hcz26_1,hcz26_2,hcz26_3,hfz26_0,hfz26_1,hfz26_2,hfz26_3⟩:=bcl4 BK293.out))
   go_ret
   exact ⟨qq89,qq28⟩
 ·rw [if_neg c3] at H;have c3b0 : (a0_0 == a1_0) = false:=beq_eq_false_iff_ne.mpr c3;have c3b1 : (a0_0 != a1_0) = true:=bne_iff_ne.mpr c3;obtain rfl:=Option.some.inj H
  go_enter Try.func38,Try.ntmps38
  go_wp2_with (first | ((with_reducible refine gate_dst (N:=2) rfl ?_);refine box_event ?hg (N:=2) ?hd (cs:=#[.int .i64 a0_0,.int .i64 a0_1,.int .i64 a0_2,.bool a0_3]) (t:=49) ?hr ?_;(case hd => rfl);(case hg => rfl);(case hr => exact qq103);intro gb292 hg w27 hbox hb;have BK292:=am (hbox);have GW292:=am qq128;have GE292:=am qq128;replace HB:=am qq133;clear hb hbox hg) | ((with_reducible refine gate_dst (N:=3) rfl ?_);refine box_event ?hg (N:=3) ?hd (cs:=#[.int .i64 a1_0,.int .i64 a1_1,.int .i64 a1_2,.bool a1_3]) (t:=49) ?hr ?_;(case hd => rfl);(case hg => rfl);(case hr => exact qq103);intro gb293 hg w28 hbox hb;have BK293:=am (hbox);have GW293:=am qq129;have GE293:=am qq129;replace HB:=am (below_step qq51 hb);have NB292_293:=am qq131;have NB293_292:=am qq132;replace BK292:=am qq115;clear hb hbox hg;have hnb29:=NB292_293.out;have hnc29:=NB293_292.out;obtain ⟨hcz30_0,hcz30_1,hcz30_2,hcz30_3,hfz30_0,hfz30_1,hfz30_2,hfz30_3⟩:=bcl4 BK292.out;obtain ⟨hcz31_0,hcz31_1,hcz31_2,hcz31_3,hfz31_0,hfz31_1,hfz31_2,hfz31_3⟩:=bcl4 BK293.out))
  go_ret
  exact ⟨qq89,qq28⟩

/-! ### laws_eqMemberS: function 17 -/
def laws_eqMemberS.l0 : Nat → List (S49) → List (S49) → Int → Option (Bool)
 | 0,_,_,_ => none
 | k + 1,x0,x1,x5 => if x5 < (x0.length : Int) then (if 0 ≤ x5 then (if x5 < (x1.length : Int) then ((laws_eqMember.f ((rd_T49 x0 x5).f0) ((rd_T49 x0 x5).f1) ((rd_T49 x0 x5).f2) ((rd_T49 x0 x5).f3) ((rd_T49 x1 x5).f0) ((rd_T49 x1 x5).f1) ((rd_T49 x1 x5).f2) ((rd_T49 x1 x5).f3)).bind fun t296 => (if t296 = true then (laws_eqMemberS.l0 k x0 x1 (wrap64 (x5 + 1))) else (some false))) else (none)) else (none)) else (some true)
def laws_eqMemberS.f (k : Nat) (l0 : List (S49)) (l1 : List (S49)) : Option (Bool) := if (l0.length : Int) = (l1.length : Int) then (laws_eqMemberS.l0 k l0 l1 0) else (some false)
theorem laws_eqMemberS.mono_l : ∀ k, (∀ y0 y1 y2, LeO (laws_eqMemberS.l0 k y0 y1 y2) (laws_eqMemberS.l0 (k + 1) y0 y1 y2))
 | 0 => fun _ _ _ r h => by simp [laws_eqMemberS.l0] at h
 | k + 1 => by
  have ih0:=laws_eqMemberS.mono_l k
  ·intro y0 y1 y2
   unfold laws_eqMemberS.l0
   repeat' first
   | (with_reducible exact ih0 _ _ _)
   | (with_reducible exact LeO.refl _)
   | (with_reducible exact LeO.none _)
   | (with_reducible refine LeO.ite ?_ ?_)
   | (with_reducible refine LeO.bind ?_ (fun _ => ?_))
   | exact ih0 _ _ _
   | exact LeO.none _
   | refine LeO.ite ?_ ?_
   | refine LeO.bind ?_ (fun _ => ?_)
theorem laws_eqMemberS.mono : ∀ a0 a1 k, LeO (laws_eqMemberS.f k a0 a1) (laws_eqMemberS.f (k + 1) a0 a1) := by
 intro a0 a1 k
 have ih0:=laws_eqMemberS.mono_l k
 unfold laws_eqMemberS.f
 repeat' first
   | (with_reducible exact ih0 _ _ _)
   | (with_reducible exact LeO.refl _)
   | (with_reducible exact LeO.none _)
   | (with_reducible refine LeO.ite ?_ ?_)
   | (with_reducible refine LeO.bind ?_ (fun _ => ?_))
   | exact ih0 _ _ _
   | exact LeO.none _
   | refine LeO.ite ?_ ?_
   | refine LeO.bind ?_ (fun _ => ?_)
def laws_eqMemberS.T6 : Bool × List (List Nat × List Nat) := (true, [([], []), ([], []), ([0, 1], [0, 1]), ([2], [2]), ([], []), ([], []), ([4, 5], [4, 5]), ([6], [6]), ([3, 7], [3, 7]), ([8], [8])])
def laws_eqMemberS.B6 : List Nat := [0, 0, 3, 7, 0, 0, 48, 112, 255, 511]
theorem laws_eqMemberS.tab6 : rtab .any (opsOf Try.f17 6) = laws_eqMemberS.T6 := by kernel_rfl
theorem laws_eqMemberS.bits6 : waitsOk laws_eqMemberS.T6.2 laws_eqMemberS.B6 = true := by kernel_rfl
set_option maxHeartbeats 8000000 in
set_option maxRecDepth 100000 in
theorem laws_eqMemberS.calls (k : Nat) (A0 : Option Addr) (c0 : Nat) (l0 : List (S49)) (A1 : Option Addr) (c1 : Nat) (l1 : List (S49)) (r : Bool) (w : World) (hr0 : Kd.C k49 w A0 l0.length l0) (hc0 : l0.length ≤ c0) (hr1 : Kd.C k49 w A1 l1.length l1) (hc1 : l1.length ≤ c1) (h : laws_eqMemberS.f k l0 l1 = some r) :
  Calls Try.prog 17 #[.slice A0 l0.length c0,.slice A1 l1.length c1] w fun e w' => e = .returned (.bool r) ∧ Below w.heap.size w w':=by
 have hu49:=Try.underlying49;have HR0:=am hr0;have HC0:=am hc0;clear hr0 hc0;have HR1:=am hr1;have HC1:=am hc1;clear hr1 hc1;have HB:=am qq130;have H : (if (l0.length : Int) = (l1.length : Int) then (laws_eqMemberS.l0 k l0 l1 0) else (some false)) = some r:=h;clear h
 by_cases c3 : (l0.length : Int) = (l1.length : Int)
 ·rw [if_pos c3] at H;have c3b0 : ((l0.length : Int) == (l1.length : Int)) = true:=beq_iff_eq.mpr c3;have c3b1 : ((l0.length : Int) != (l1.length : Int)) = false:=bne_eq_false_iff_eq.mpr c3;have c3b2 : (l0.length == l1.length) = true:=by first | simpa using c3 | (simp at c3 ⊢;omega)
  clear c3;have H':=am H;clear H
  go_enter Try.func17,Try.ntmps17
  go_wp2
  go_loopg [5] k (fun kq v5 w' => ∃ (x5_1 : Int),v5 = .int .i64 x5_1 ∧ Aside0 (laws_eqMemberS.l0 kq l0 l1 x5_1 = some r) ∧ Aside0 (kq ≤ k) ∧ Aside0 (Below w.heap.size w w'))
  case atStart => exact ⟨(0),qq101,H',⟨Nat.le_refl _⟩,⟨qq71⟩⟩
  case round =>
   clear H'
   try clear c1
   try clear p2
   try clear c3
   try clear c3b0
   try clear c3b1
   try clear c3b2
   obtain ⟨x5_1,rfl,HA,HK1,HB⟩:=hrel
   cases gk with
   | zero => exact absurd HA.out (by simp [laws_eqMemberS.l0])
   | succ k1 =>
    have H:=HA.out;clear HA;simp only [laws_eqMemberS.l0] at H
    by_cases c4 : x5_1 < (l0.length : Int)
    ·rw [if_pos c4] at H;have c4b0 : decide (x5_1 < (l0.length : Int)) = true:=decide_eq_true c4;clear c4
     by_cases c5 : 0 ≤ x5_1
     ·rw [if_pos c5] at H;have c5b0 : decide (0 ≤ x5_1) = true:=decide_eq_true c5;clear c5
      by_cases c6 : x5_1 < (l1.length : Int)
      ·rw [if_pos c6] at H;have c6b0 : decide (x5_1 < (l1.length : Int)) = true:=decide_eq_true c6;clear c6;replace H:=bS.mp H;obtain ⟨t296,A70,H⟩:=H;replace H : (if t296 = true then (laws_eqMemberS.l0 k1 l0 l1 (wrap64 (x5_1 + 1))) else (some false)) = some r:=H;have A7:=am A70;clear A70
       by_cases c8 : t296 = true
       ·subst c8;have H1 : (laws_eqMemberS.l0 k1 l0 l1 (wrap64 (x5_1 + 1))) = some r:=by rw [if_pos rfl] at H;exact H
        clear H;have H:=H1;clear H1;have H':=am H;clear H
        try go_wp2
        replace HB:=am qq134;have p294 : 0 ≤ (x5_1 : Int):=odt qq100;have q294 : x5_1 < (l0.length : Int):=odt qq100;obtain ⟨ad294,e294,hx294_0,hx294_1,hx294_2,hx294_3⟩:=at_T49 HR0.out x5_1 p294 q294;have hw294_3:=hx294_3;have hw294_2:=hx294_2;have hw294_1:=hx294_1;have hw294_0:=hx294_0
        cases e294
        replace hx294_0:=(ct HB.out hx294_0 :)
        replace hx294_1:=(ct HB.out hx294_1 :)
        replace hx294_2:=(ct HB.out hx294_2 :)
        replace hx294_3:=(ct HB.out hx294_3 :)
        replace p294:=eq_true p294;replace q294:=eq_true q294;have p295 : 0 ≤ (x5_1 : Int):=odt qq100;have q295 : x5_1 < (l1.length : Int):=odt qq100;obtain ⟨ad295,e295,hx295_0,hx295_1,hx295_2,hx295_3⟩:=at_T49 HR1.out x5_1 p295 q295;have hw295_3:=hx295_3;have hw295_2:=hx295_2;have hw295_1:=hx295_1;have hw295_0:=hx295_0
        cases e295
        replace hx295_0:=(ct HB.out hx295_0 :)
        replace hx295_1:=(ct HB.out hx295_1 :)
        replace hx295_2:=(ct HB.out hx295_2 :)
        replace hx295_3:=(ct HB.out hx295_3 :)
        replace p295:=eq_true p295;replace q295:=eq_true q295;refine start_ (n:=10) (S:=fun w' => w'.cell? (ad294.add ((x5_1).toNat * 4)) = some (.int .i64 ((rd_T49 l0 x5_1).f0)) ∧ w'.cell? ⟨(ad294.add ((x5_1).toNat * 4)).block,(ad294.add ((x5_1).toNat * 4)).off + 1,none⟩ = some (.int .i64 ((rd_T49 l0 x5_1).f1)) ∧ w'.cell? ⟨(ad294.add ((x5_1).toNat * 4)).block,(ad294.add ((x5_1).toNat * 4)).off + 2,none⟩ = some (.int .i64 ((rd_T49 l0 x5_1).f2)) ∧ w'.cell? ⟨(ad294.add ((x5_1).toNat * 4)).block,(ad294.add ((x5_1).toNat * 4)).off + 3,none⟩ = some (.bool ((rd_T49 l0 x5_1).f3)) ∧ w'.cell? (ad295.add ((x5_1).toNat * 4)) = some (.int .i64 ((rd_T49 l1 x5_1).f0)) ∧ w'.cell? ⟨(ad295.add ((x5_1).toNat * 4)).block,(ad295.add ((x5_1).toNat * 4)).off + 1,none⟩ = some (.int .i64 ((rd_T49 l1 x5_1).f1)) ∧ w'.cell? ⟨(ad295.add ((x5_1).toNat * 4)).block,(ad295.add ((x5_1).toNat * 4)).off + 2,none⟩ = some (.int .i64 ((rd_T49 l1 x5_1).f2)) ∧ w'.cell? ⟨(ad295.add ((x5_1).toNat * 4)).block,(ad295.add ((x5_1).toNat * 4)).off + 3,none⟩ = some (.bool ((rd_T49 l1 x5_1).f3))) (ds:=[]) #[Z,Z,Z,Z,Z,Z,Z,Z,Z,Z] (by kernel_rfl) rfl rfl ⟨(ct HB.out hw294_0 :),(ct HB.out hw294_1 :),(ct HB.out hw294_2 :),(ct HB.out hw294_3 :),(ct HB.out hw295_0 :),(ct HB.out hw295_1 :),(ct HB.out hw295_2 :),(ct HB.out hw295_3 :)⟩ (fun hHeld => ?_);refine with_tabW laws_eqMemberS.tab6 laws_eqMemberS.bits6 (fun HT_ HW_ => ?_)
        generalize wr.drew = w9 at HB hx294_0 hx294_1 hx294_2 hx294_3 hx295_0 hx295_1 hx295_2 hx295_3 hHeld ⊢
        refine pV (i:=0) (N:=some 17) #[Y,Z,Z,Z,Z,Z,Z,Z,Z,Z] rfl rfl qT ?_
        refine pV (i:=1) (N:=some 18) #[Y,Y,Z,Z,Z,Z,Z,Z,Z,Z] rfl rfl qT ?_
        refine pV (i:=2) (N:=some 19) #[Y,Y,Y,Z,Z,Z,Z,Z,Z,Z] rfl rfl qT ?_
        refine pV (i:=4) (N:=some 21) #[Y,Y,Y,Z,Y,Z,Z,Z,Z,Z] rfl rfl qT ?_
        refine pV (i:=5) (N:=some 22) #[Y,Y,Y,Z,Y,Y,Z,Z,Z,Z] rfl rfl qT ?_
        refine pV (i:=6) (N:=some 23) #[Y,Y,Y,Z,Y,Y,Y,Z,Z,Z] rfl rfl qT ?_
        refine tV8 (i:=3) (N:=some 20) #[Y,Y,Y,Y,Y,Y,Y,Z,Z,Z] rfl rfl (take_ofW HT_.out HW_.out (by kernel_rfl)) hHeld ?_
        refine tV8 (i:=7) (N:=some 24) #[Y,Y,Y,Y,Y,Y,Y,Y,Z,Z] rfl rfl (take_ofW HT_.out HW_.out (by kernel_rfl)) hHeld ?_
        refine one_ (i:=8) (N:=some 25) #[Y,Y,Y,Y,Y,Y,Y,Y,Y,Z] rfl rfl (one_of HT_.out (by kernel_rfl)) (by decide) (fun K hK => ?_);refine goes_ Try.func38 (by kernel_rfl) rfl #[.agg #[.int .i64 ((rd_T49 l0 x5_1).f0),.int .i64 ((rd_T49 l0 x5_1).f1),.int .i64 ((rd_T49 l0 x5_1).f2),.bool ((rd_T49 l0 x5_1).f3)],.agg #[.int .i64 ((rd_T49 l1 x5_1).f0),.int .i64 ((rd_T49 l1 x5_1).f1),.int .i64 ((rd_T49 l1 x5_1).f2),.bool ((rd_T49 l1 x5_1).f3)]] (by rfl) rfl rfl qq60 ?_;with_reducible refine (laws_eqMember.calls ((rd_T49 l0 x5_1).f0) ((rd_T49 l0 x5_1).f1) ((rd_T49 l0 x5_1).f2) ((rd_T49 l0 x5_1).f3) ((rd_T49 l1 x5_1).f0) ((rd_T49 l1 x5_1).f1) ((rd_T49 l1 x5_1).f2) ((rd_T49 l1 x5_1).f3) true _ A7.out).mono ?_
        rintro e w10 ⟨rfl,hb⟩
        refine ⟨_,rfl,?_⟩;replace HB:=am qq133;(try clear hb);(try clear hb2);(try clear hk);(try clear hi);refine hK.out _ _ ⟨(ct HB.out hw294_0 :),(ct HB.out hw294_1 :),(ct HB.out hw294_2 :),(ct HB.out hw294_3 :),(ct HB.out hw295_0 :),(ct HB.out hw295_1 :),(ct HB.out hw295_2 :),(ct HB.out hw295_3 :)⟩ (fun hHeld => ?_);clear hK K;refine norm_ (a':=?_) ?_ ?_;rotate_left
        ·show Act.put _ (some 25) _ = _
         simp only [Act.put,sA,s0,s1,i64_w,i32_w];rfl
        refine pV (i:=9) (N:=some 26) #[Y,Y,Y,Y,Y,Y,Y,Y,Y,Y] rfl rfl qT ?_
        refine done_ (done_of HT_.out (by kernel_rfl)) ?_
        try go_wp2
        go_roundg k1
        case measure => have:=HK1.out;omega
        case rel => exact ⟨(wrap64 (x5_1 + 1)),qq101,H',⟨qq108⟩,⟨qq71⟩⟩
       ·replace c8:=Bool.eq_false_iff.mpr c8;subst c8;have H1 : (some false) = some r:=by rw [if_neg (show ¬ (false = true) by decide)] at H;exact H
        clear H;have H:=H1;clear H1;obtain rfl:=Option.some.inj H
        try go_wp2
        replace HB:=am qq134;have p294 : 0 ≤ (x5_1 : Int):=odt qq100;have q294 : x5_1 < (l0.length : Int):=odt qq100;obtain ⟨ad294,e294,hx294_0,hx294_1,hx294_2,hx294_3⟩:=at_T49 HR0.out x5_1 p294 q294;have hw294_3:=hx294_3;have hw294_2:=hx294_2;have hw294_1:=hx294_1;have hw294_0:=hx294_0
        cases e294
        replace hx294_0:=(ct HB.out hx294_0 :)
        replace hx294_1:=(ct HB.out hx294_1 :)
        replace hx294_2:=(ct HB.out hx294_2 :)
        replace hx294_3:=(ct HB.out hx294_3 :)
        replace p294:=eq_true p294;replace q294:=eq_true q294;have p295 : 0 ≤ (x5_1 : Int):=odt qq100;have q295 : x5_1 < (l1.length : Int):=odt qq100;obtain ⟨ad295,e295,hx295_0,hx295_1,hx295_2,hx295_3⟩:=at_T49 HR1.out x5_1 p295 q295;have hw295_3:=hx295_3;have hw295_2:=hx295_2;have hw295_1:=hx295_1;have hw295_0:=hx295_0
        cases e295
        replace hx295_0:=(ct HB.out hx295_0 :)
        replace hx295_1:=(ct HB.out hx295_1 :)
        replace hx295_2:=(ct HB.out hx295_2 :)
        replace hx295_3:=(ct HB.out hx295_3 :)
        replace p295:=eq_true p295;replace q295:=eq_true q295;refine start_ (n:=10) (S:=fun w' => w'.cell? (ad294.add ((x5_1).toNat * 4)) = some (.int .i64 ((rd_T49 l0 x5_1).f0)) ∧ w'.cell? ⟨(ad294.add ((x5_1).toNat * 4)).block,(ad294.add ((x5_1).toNat * 4)).off + 1,none⟩ = some (.int .i64 ((rd_T49 l0 x5_1).f1)) ∧ w'.cell? ⟨(ad294.add ((x5_1).toNat * 4)).block,(ad294.add ((x5_1).toNat * 4)).off + 2,none⟩ = some (.int .i64 ((rd_T49 l0 x5_1).f2)) ∧ w'.cell? ⟨(ad294.add ((x5_1).toNat * 4)).block,(ad294.add ((x5_1).toNat * 4)).off + 3,none⟩ = some (.bool ((rd_T49 l0 x5_1).f3)) ∧ w'.cell? (ad295.add ((x5_1).toNat * 4)) = some (.int .i64 ((rd_T49 l1 x5_1).f0)) ∧ w'.cell? ⟨(ad295.add ((x5_1).toNat * 4)).block,(ad295.add ((x5_1).toNat * 4)).off + 1,none⟩ = some (.int .i64 ((rd_T49 l1 x5_1).f1)) ∧ w'.cell? ⟨(ad295.add ((x5_1).toNat * 4)).block,(ad295.add ((x5_1).toNat * 4)).off + 2,none⟩ = some (.int .i64 ((rd_T49 l1 x5_1).f2)) ∧ w'.cell? ⟨(ad295.add ((x5_1).toNat * 4)).block,(ad295.add ((x5_1).toNat * 4)).off + 3,none⟩ = some (.bool ((rd_T49 l1 x5_1).f3))) (ds:=[]) #[Z,Z,Z,Z,Z,Z,Z,Z,Z,Z] (by kernel_rfl) rfl rfl ⟨(ct HB.out hw294_0 :),(ct HB.out hw294_1 :),(ct HB.out hw294_2 :),(ct HB.out hw294_3 :),(ct HB.out hw295_0 :),(ct HB.out hw295_1 :),(ct HB.out hw295_2 :),(ct HB.out hw295_3 :)⟩ (fun hHeld => ?_);refine with_tabW laws_eqMemberS.tab6 laws_eqMemberS.bits6 (fun HT_ HW_ => ?_)
        generalize wr.drew = w11 at HB hx294_0 hx294_1 hx294_2 hx294_3 hx295_0 hx295_1 hx295_2 hx295_3 hHeld ⊢
        refine pV (i:=0) (N:=some 17) #[Y,Z,Z,Z,Z,Z,Z,Z,Z,Z] rfl rfl qT ?_
        refine pV (i:=1) (N:=some 18) #[Y,Y,Z,Z,Z,Z,Z,Z,Z,Z] rfl rfl qT ?_
        refine pV (i:=2) (N:=some 19) #[Y,Y,Y,Z,Z,Z,Z,Z,Z,Z] rfl rfl qT ?_
        refine pV (i:=4) (N:=some 21) #[Y,Y,Y,Z,Y,Z,Z,Z,Z,Z] rfl rfl qT ?_
        refine pV (i:=5) (N:=some 22) #[Y,Y,Y,Z,Y,Y,Z,Z,Z,Z] rfl rfl qT ?_
        refine pV (i:=6) (N:=some 23) #[Y,Y,Y,Z,Y,Y,Y,Z,Z,Z] rfl rfl qT ?_
        refine tV8 (i:=3) (N:=some 20) #[Y,Y,Y,Y,Y,Y,Y,Z,Z,Z] rfl rfl (take_ofW HT_.out HW_.out (by kernel_rfl)) hHeld ?_
        refine tV8 (i:=7) (N:=some 24) #[Y,Y,Y,Y,Y,Y,Y,Y,Z,Z] rfl rfl (take_ofW HT_.out HW_.out (by kernel_rfl)) hHeld ?_
        refine one_ (i:=8) (N:=some 25) #[Y,Y,Y,Y,Y,Y,Y,Y,Y,Z] rfl rfl (one_of HT_.out (by kernel_rfl)) (by decide) (fun K hK => ?_);refine goes_ Try.func38 (by kernel_rfl) rfl #[.agg #[.int .i64 ((rd_T49 l0 x5_1).f0),.int .i64 ((rd_T49 l0 x5_1).f1),.int .i64 ((rd_T49 l0 x5_1).f2),.bool ((rd_T49 l0 x5_1).f3)],.agg #[.int .i64 ((rd_T49 l1 x5_1).f0),.int .i64 ((rd_T49 l1 x5_1).f1),.int .i64 ((rd_T49 l1 x5_1).f2),.bool ((rd_T49 l1 x5_1).f3)]] (by rfl) rfl rfl qq60 ?_;with_reducible refine (laws_eqMember.calls ((rd_T49 l0 x5_1).f0) ((rd_T49 l0 x5_1).f1) ((rd_T49 l0 x5_1).f2) ((rd_T49 l0 x5_1).f3) ((rd_T49 l1 x5_1).f0) ((rd_T49 l1 x5_1).f1) ((rd_T49 l1 x5_1).f2) ((rd_T49 l1 x5_1).f3) false _ A7.out).mono ?_
        rintro e w12 ⟨rfl,hb⟩
        refine ⟨_,rfl,?_⟩;replace HB:=am qq133;(try clear hb);(try clear hb2);(try clear hk);(try clear hi);refine hK.out _ _ ⟨(ct HB.out hw294_0 :),(ct HB.out hw294_1 :),(ct HB.out hw294_2 :),(ct HB.out hw294_3 :),(ct HB.out hw295_0 :),(ct HB.out hw295_1 :),(ct HB.out hw295_2 :),(ct HB.out hw295_3 :)⟩ (fun hHeld => ?_);clear hK K;refine norm_ (a':=?_) ?_ ?_;rotate_left
        ·show Act.put _ (some 25) _ = _
         simp only [Act.put,sA,s0,s1,i64_w,i32_w];rfl
        refine pV (i:=9) (N:=some 26) #[Y,Y,Y,Y,Y,Y,Y,Y,Y,Y] rfl rfl qT ?_
        refine done_ (done_of HT_.out (by kernel_rfl)) ?_
        try go_wp2
        go_ret
        exact ⟨qq89,qq71⟩
      ·rw [if_neg c6] at H;exact absurd H (by simp)
     ·rw [if_neg c5] at H;exact absurd H (by simp)
    ·rw [if_neg c4] at H;have c4b0 : decide (x5_1 < (l0.length : Int)) = false:=decide_eq_false c4;clear c4;obtain rfl:=Option.some.inj H;go_wp2
     go_ret
     exact ⟨qq89,qq71⟩
 ·rw [if_neg c3] at H;have c3b0 : ((l0.length : Int) == (l1.length : Int)) = false:=beq_eq_false_iff_ne.mpr c3;have c3b1 : ((l0.length : Int) != (l1.length : Int)) = true:=bne_iff_ne.mpr c3;have c3b2 : (l0.length == l1.length) = false:=by first | simpa using c3 | (simp at c3 ⊢;omega)
  obtain rfl:=Option.some.inj H
  go_enter Try.func17,Try.ntmps17
  go_wp2
  go_ret
  exact ⟨qq89,qq71⟩

/-! ### laws_markMemberS: function 18 -/
def laws_markMemberS.l0 : Nat → List (S49) → Int → Int → Option (Int × (List (S49)))
 | 0,_,_,_ => none
 | k + 1,x0,x1,x5 => if x5 < (x0.length : Int) then (if 0 ≤ x5 then ((some (x0.set (x5 : Int).toNat (⟨x1,(rd_T49 x0 x5).f1,(rd_T49 x0 x5).f2,(rd_T49 x0 x5).f3⟩ : S49) : List (S49))).bind fun y297 => ((some (y297.set (x5 : Int).toNat (⟨(rd_T49 y297 x5).f0,wrap64 (x1 + 1),(rd_T49 y297 x5).f2,(rd_T49 y297 x5).f3⟩ : S49) : List (S49))).bind fun y298 => ((some (y298.set (x5 : Int).toNat (⟨(rd_T49 y298 x5).f0,(rd_T49 y298 x5).f1,wrap64 ((wrap64 (x1 + 1)) + 1),(rd_T49 y298 x5).f3⟩ : S49) : List (S49))).bind fun y299 => (laws_markMemberS.l0 k (y299.set (x5 : Int).toNat (⟨(rd_T49 y299 x5).f0,(rd_T49 y299 x5).f1,(rd_T49 y299 x5).f2,((Int.tmod (wrap64 ((wrap64 ((wrap64 (x1 + 1)) + 1)) + 1)) 3) == 0)⟩ : S49)) (wrap64 ((wrap64 ((wrap64 ((wrap64 (x1 + 1)) + 1)) + 1)) + 1)) (wrap64 (x5 + 1)))))) else (none)) else (some (x1,x0))
def laws_markMemberS.f (k : Nat) (l0 : List (S49)) (a1 : Int) : Option (Int × (List (S49))) := laws_markMemberS.l0 k l0 a1 0
theorem laws_markMemberS.mono_l : ∀ k, (∀ y0 y1 y2, LeO (laws_markMemberS.l0 k y0 y1 y2) (laws_markMemberS.l0 (k + 1) y0 y1 y2))
 | 0 => fun _ _ _ r h => by simp [laws_markMemberS.l0] at h
 | k + 1 => by
  have ih0:=laws_markMemberS.mono_l k
  ·intro y0 y1 y2
   unfold laws_markMemberS.l0
   repeat' first
   | (with_reducible exact ih0 _ _ _)
   | (with_reducible exact LeO.refl _)
   | (with_reducible exact LeO.none _)
   | (with_reducible refine LeO.ite ?_ ?_)
   | (with_reducible refine LeO.bind ?_ (fun _ => ?_))
   | exact ih0 _ _ _
   | exact LeO.none _
   | refine LeO.ite ?_ ?_
   | refine LeO.bind ?_ (fun _ => ?_)
theorem laws_markMemberS.mono : ∀ a0 a1 k, LeO (laws_markMemberS.f k a0 a1) (laws_markMemberS.f (k + 1) a0 a1) := by
 intro a0 a1 k
 have ih0:=laws_markMemberS.mono_l k
 unfold laws_markMemberS.f
 repeat' first
   | (with_reducible exact ih0 _ _ _)
   | (with_reducible exact LeO.refl _)
   | (with_reducible exact LeO.none _)
   | (with_reducible refine LeO.ite ?_ ?_)
   | (with_reducible refine LeO.bind ?_ (fun _ => ?_))
   | exact ih0 _ _ _
   | exact LeO.none _
   | refine LeO.ite ?_ ?_
   | refine LeO.bind ?_ (fun _ => ?_)
set_option maxHeartbeats 8000000 in
set_option maxRecDepth 100000 in
theorem laws_markMemberS.calls (k : Nat) (P0_ : Nat → Prop) (u9000_ : Value) (l0 : List (S49)) (a1 : Int) (r1 : Int) (r2 : List (S49)) (w0 w : World) (hB : Below w0.heap.size w0 w) (ho0 : Kd.R k49 49 w w0.heap.size P0_ u9000_ l0) (h : laws_markMemberS.f k l0 a1 = some (r1, r2)) :
  Calls Try.prog 18 #[u9000_,.int .i64 a1] w fun e w' => e = .returned (.int .i64 r1) ∧ Kd.R k49 49 w' w0.heap.size (fun k_ => (P0_ k_ ∨ w.heap.size ≤ k_)) u9000_ r2 ∧ Below w0.heap.size w0 w' ∧ Kept w w' (fun k_ => P0_ k_):=by
 have HO0:=am (show Kd.R k49 49 w w0.heap.size (fun k_ => (P0_ k_ ∨ w.heap.size ≤ k_)) u9000_ l0 from Kd.R_mono ho0 (fun k_ hk => (.inl hk)));have HK:=am (Kept.refl w (fun k_ => P0_ k_));have HW0:=am hB.size;have HB:=am hB;clear hB;have H : (laws_markMemberS.l0 k l0 a1 0) = some (r1,r2):=h;clear h;have H':=am H;clear H
 go_enter Try.func18,Try.ntmps18
 go_wp2
 go_loopg [1,5] k (fun kq v1 v5 w' => ∃ (x0_1 : List (S49)) (x1_1 : Int) (x5_1 : Int),v1 = .int .i64 x1_1 ∧ v5 = .int .i64 x5_1 ∧ Aside0 (laws_markMemberS.l0 kq x0_1 x1_1 x5_1 = some (r1,r2)) ∧ Aside0 (kq ≤ k) ∧ Aside0 (Kd.R k49 49 w' w0.heap.size (fun k_ => (P0_ k_ ∨ w.heap.size ≤ k_)) u9000_ x0_1) ∧ Aside0 (Kept w w' (fun k_ => P0_ k_)) ∧ Aside0 (Below w0.heap.size w0 w'))
 case atStart => exact ⟨(l0),(a1),(0),qq101,qq101,H',⟨Nat.le_refl _⟩,⟨qq93⟩,⟨qq68⟩,⟨qq71⟩⟩
 case round =>
  clear H'
  try clear c1
  try clear p2
  obtain ⟨x0_1,x1_1,x5_1,rfl,rfl,HA,HK1,HO_0,HK,HB⟩:=hrel
  cases gk with
  | zero => exact absurd HA.out (by simp [laws_markMemberS.l0])
  | succ k1 =>
   have H:=HA.out;clear HA;simp only [laws_markMemberS.l0] at H
   by_cases c3 : x5_1 < (x0_1.length : Int)
   ·rw [if_pos c3] at H;have c3b0 : decide (x5_1 < (x0_1.length : Int)) = true:=decide_eq_true c3;clear c3
    by_cases c4 : 0 ≤ x5_1
    ·rw [if_pos c4] at H;have c4b0 : decide (0 ≤ x5_1) = true:=decide_eq_true c4;clear c4;obtain ⟨y297,hy297⟩ : ∃ y_ : List (S49),y_ = (x0_1.set (x5_1 : Int).toNat (⟨x1_1,(rd_T49 x0_1 x5_1).f1,(rd_T49 x0_1 x5_1).f2,(rd_T49 x0_1 x5_1).f3⟩ : S49)):=⟨_,rfl⟩
     replace H : ((some (y297.set (x5_1 : Int).toNat (⟨(rd_T49 y297 x5_1).f0,wrap64 (x1_1 + 1),(rd_T49 y297 x5_1).f2,(rd_T49 y297 x5_1).f3⟩ : S49) : List (S49))).bind fun y298 => ((some (y298.set (x5_1 : Int).toNat (⟨(rd_T49 y298 x5_1).f0,(rd_T49 y298 x5_1).f1,wrap64 ((wrap64 (x1_1 + 1)) + 1),(rd_T49 y298 x5_1).f3⟩ : S49) : List (S49))).bind fun y299 => (laws_markMemberS.l0 k1 (y299.set (x5_1 : Int).toNat (⟨(rd_T49 y299 x5_1).f0,(rd_T49 y299 x5_1).f1,(rd_T49 y299 x5_1).f2,((Int.tmod (wrap64 ((wrap64 ((wrap64 (x1_1 + 1)) + 1)) + 1)) 3) == 0)⟩ : S49)) (wrap64 ((wrap64 ((wrap64 ((wrap64 (x1_1 + 1)) + 1)) + 1)) + 1)) (wrap64 (x5_1 + 1))))) = some (r1,r2):=by first | (rw [hy297];with_reducible exact H) | (have H2_:=(Option.bind_some _ _).symm.trans H;rw [hy297];with_reducible exact H2_) | (have H2_:=(Option.bind_some _ _).symm.trans H;with_reducible exact H2_) | with_reducible exact H | (rw [hy297];exact H) | exact H
     have Ny297:=am hy297;clear hy297;obtain ⟨y298,hy298⟩ : ∃ y_ : List (S49),y_ = (y297.set (x5_1 : Int).toNat (⟨(rd_T49 y297 x5_1).f0,wrap64 (x1_1 + 1),(rd_T49 y297 x5_1).f2,(rd_T49 y297 x5_1).f3⟩ : S49)):=⟨_,rfl⟩
     replace H : ((some (y298.set (x5_1 : Int).toNat (⟨(rd_T49 y298 x5_1).f0,(rd_T49 y298 x5_1).f1,wrap64 ((wrap64 (x1_1 + 1)) + 1),(rd_T49 y298 x5_1).f3⟩ : S49) : List (S49))).bind fun y299 => (laws_markMemberS.l0 k1 (y299.set (x5_1 : Int).toNat (⟨(rd_T49 y299 x5_1).f0,(rd_T49 y299 x5_1).f1,(rd_T49 y299 x5_1).f2,((Int.tmod (wrap64 ((wrap64 ((wrap64 (x1_1 + 1)) + 1)) + 1)) 3) == 0)⟩ : S49)) (wrap64 ((wrap64 ((wrap64 ((wrap64 (x1_1 + 1)) + 1)) + 1)) + 1)) (wrap64 (x5_1 + 1)))) = some (r1,r2):=by first | (rw [hy298];with_reducible exact H) | (have H2_:=(Option.bind_some _ _).symm.trans H;rw [hy298];with_reducible exact H2_) | (have H2_:=(Option.bind_some _ _).symm.trans H;with_reducible exact H2_) | with_reducible exact H | (rw [hy298];exact H) | exact H
     have Ny298:=am hy298;clear hy298;obtain ⟨y299,hy299⟩ : ∃ y_ : List (S49),y_ = (y298.set (x5_1 : Int).toNat (⟨(rd_T49 y298 x5_1).f0,(rd_T49 y298 x5_1).f1,wrap64 ((wrap64 (x1_1 + 1)) + 1),(rd_T49 y298 x5_1).f3⟩ : S49)):=⟨_,rfl⟩
     replace H : (laws_markMemberS.l0 k1 (y299.set (x5_1 : Int).toNat (⟨(rd_T49 y299 x5_1).f0,(rd_T49 y299 x5_1).f1,(rd_T49 y299 x5_1).f2,((Int.tmod (wrap64 ((wrap64 ((wrap64 (x1_1 + 1)) + 1)) + 1)) 3) == 0)⟩ : S49)) (wrap64 ((wrap64 ((wrap64 ((wrap64 (x1_1 + 1)) + 1)) + 1)) + 1)) (wrap64 (x5_1 + 1))) = some (r1,r2):=by first | (rw [hy299];with_reducible exact H) | (have H2_:=(Option.bind_some _ _).symm.trans H;rw [hy299];with_reducible exact H2_) | (have H2_:=(Option.bind_some _ _).symm.trans H;with_reducible exact H2_) | with_reducible exact H | (rw [hy299];exact H) | exact H
     have Ny299:=am hy299;clear hy299;obtain ⟨y300,hy300⟩ : ∃ y_ : List (S49),y_ = (y299.set (x5_1 : Int).toNat (⟨(rd_T49 y299 x5_1).f0,(rd_T49 y299 x5_1).f1,(rd_T49 y299 x5_1).f2,((Int.tmod (wrap64 ((wrap64 ((wrap64 (x1_1 + 1)) + 1)) + 1)) 3) == 0)⟩ : S49)):=⟨_,rfl⟩
     replace H : (laws_markMemberS.l0 k1 y300 (wrap64 ((wrap64 ((wrap64 ((wrap64 (x1_1 + 1)) + 1)) + 1)) + 1)) (wrap64 (x5_1 + 1))) = some (r1,r2):=by first | (rw [hy300];with_reducible exact H) | (have H2_:=(Option.bind_some _ _).symm.trans H;rw [hy300];with_reducible exact H2_) | (have H2_:=(Option.bind_some _ _).symm.trans H;with_reducible exact H2_) | with_reducible exact H | (rw [hy300];exact H) | exact H
     have Ny300:=am hy300;clear hy300;have H':=am H;clear H;obtain ⟨Ao9,co9,eo9⟩:=Kd.R_slice HO_0.out;subst eo9;have p5 : 0 ≤ (x5_1 : Int):=odt qq100;have q5 : (x5_1 : Int) < ((x0_1.length : Int) : Int):=odt qq100;obtain ⟨go5,co5,eo5,gb5,gl5,cl5,HG5⟩:=Kd.R_form HO_0.out (by omega);(first | cases eo5 | (injection eo5 with ea_ en_ ec_;(first | subst ea_ | (injection ea_ with ea_;subst ea_));subst ec_;clear en_));have GB5:=am gb5;have GG5:=am HG5;clear gb5 gl5 HG5;have HMgo5:=am (show (P0_ go5 ∨ w.heap.size ≤ go5) from (HO_0.out.1 _ rfl));obtain ⟨ce5,hcl5,hM5,hcc5,hfr5⟩:=Kd.R_elem HO_0.out z49 (x5_1 : Int) p5 q5;obtain rfl:=k49_openM hM5;have hx5_0 : wr.cell? ⟨go5,(x5_1 : Int).toNat * 4,none⟩ = some (.int .i64 ((rd_T49 x0_1 x5_1).f0)):=hcc5 0 _ rfl;have hx5_1 : wr.cell? ⟨go5,(x5_1 : Int).toNat * 4 + 1,none⟩ = some (.int .i64 ((rd_T49 x0_1 x5_1).f1)):=hcc5 1 _ rfl;have hx5_2 : wr.cell? ⟨go5,(x5_1 : Int).toNat * 4 + 2,none⟩ = some (.int .i64 ((rd_T49 x0_1 x5_1).f2)):=hcc5 2 _ rfl;have hx5_3 : wr.cell? ⟨go5,(x5_1 : Int).toNat * 4 + 3,none⟩ = some (.bool ((rd_T49 x0_1 x5_1).f3)):=hcc5 3 _ rfl;have hf5_0 : wr.frozen? ⟨go5,(x5_1 : Int).toNat * 4,none⟩ = false:=hfr5 0;have hf5_1 : wr.frozen? ⟨go5,(x5_1 : Int).toNat * 4 + 1,none⟩ = false:=hfr5 1;have hf5_2 : wr.frozen? ⟨go5,(x5_1 : Int).toNat * 4 + 2,none⟩ = false:=hfr5 2;have hf5_3 : wr.frozen? ⟨go5,(x5_1 : Int).toNat * 4 + 3,none⟩ = false:=hfr5 3;clear hcl5 hcc5 hfr5 hM5;replace p5:=eq_true p5;replace q5:=eq_true q5;have HX10:=am (show Kd.R k49 49 wr w0.heap.size (fun k_ => (P0_ k_ ∨ w.heap.size ≤ k_)) (.slice (some ⟨go5,0,none⟩) x0_1.length co9) x0_1 from qq92);obtain ⟨ce10,hcl10,hM10,hcc10,hfr10⟩:=Kd.R_elem HX10.out z49 (x5_1 : Int) (odt qq100) qq19;obtain rfl:=k49_openM hM10;have HP10:=Kd.R_seg HX10.out (x5_1 : Int) (odt qq100) qq19 (seg:=[.int .i64 x1_1]) (j:=0) hcl10 hcc10 (show 1 ≤ 4 from by decide) (x':=(⟨x1_1,(rd_T49 x0_1 x5_1).f1,(rd_T49 x0_1 x5_1).f2,(rd_T49 x0_1 x5_1).f3⟩ : S49)) (k49_mkM _ _ _ (⟨x1_1,(rd_T49 x0_1 x5_1).f1,(rd_T49 x0_1 x5_1).f2,(rd_T49 x0_1 x5_1).f3⟩ : S49) ) (fun _ hk => hk);have hx10_0:=hcc10 0 _ rfl;(try simp only [show (k49).sz = 4 from rfl,Nat.mul_one,Nat.add_zero] at hx10_0);have hf10_0:=hfr10 0;(try simp only [show (k49).sz = 4 from rfl,Nat.mul_one,Nat.add_zero] at hf10_0);clear hcl10 hcc10 hfr10 hM10;go_wp2_with (first | ((with_reducible refine gate_store (t:=3) (p:=16) rfl ?_);refine store_event (t:=3) (p:=16) (v:=?vo_w11) (w1:=(wr.setCell ⟨go5,(x5_1 : Int).toNat * 4,none⟩ (.int .i64 x1_1))) ?hg ?ho ?hn ?hr ?_;(case ho => rfl);(case hg => rfl);(case hn => rfl);(case hr => exact qq103);intro w11 hw;have hg : wr.grownBy w11 (some go5):=(by rw [hw];exact HP10.2);have hp_ : Kd.R k49 49 w11 w0.heap.size (fun k_ => (P0_ k_ ∨ w.heap.size ≤ k_)) (.slice (some ⟨go5,0,none⟩) x0_1.length co9) y297:=(by rw [hw,Ny297.out];exact HP10.1);clear HP10;replace HB:=am ((qq102 : Below w0.heap.size w0 w11));replace HK:=am qq116;replace HO_0:=am (hp_);clear hg hw hp_;have p6 : 0 ≤ (x5_1 : Int):=odt qq100;have q6 : (x5_1 : Int) < ((x0_1.length : Int) : Int):=odt qq100;obtain ⟨ce6,hcl6,hM6,hcc6,hfr6⟩:=Kd.R_elem HO_0.out z49 (x5_1 : Int) p6 q6;obtain rfl:=k49_openM hM6;have hx6_0 : w11.cell? ⟨go5,(x5_1 : Int).toNat * 4,none⟩ = some (.int .i64 ((rd_T49 y297 x5_1).f0)):=hcc6 0 _ rfl;have hx6_1 : w11.cell? ⟨go5,(x5_1 : Int).toNat * 4 + 1,none⟩ = some (.int .i64 ((rd_T49 y297 x5_1).f1)):=hcc6 1 _ rfl;have hx6_2 : w11.cell? ⟨go5,(x5_1 : Int).toNat * 4 + 2,none⟩ = some (.int .i64 ((rd_T49 y297 x5_1).f2)):=hcc6 2 _ rfl;have hx6_3 : w11.cell? ⟨go5,(x5_1 : Int).toNat * 4 + 3,none⟩ = some (.bool ((rd_T49 y297 x5_1).f3)):=hcc6 3 _ rfl;have hf6_0 : w11.frozen? ⟨go5,(x5_1 : Int).toNat * 4,none⟩ = false:=hfr6 0;have hf6_1 : w11.frozen? ⟨go5,(x5_1 : Int).toNat * 4 + 1,none⟩ = false:=hfr6 1;have hf6_2 : w11.frozen? ⟨go5,(x5_1 : Int).toNat * 4 + 2,none⟩ = false:=hfr6 2;have hf6_3 : w11.frozen? ⟨go5,(x5_1 : Int).toNat * 4 + 3,none⟩ = false:=hfr6 3;clear hcl6 hcc6 hfr6;(try clear hM6);replace p6:=eq_true p6;replace q6:=eq_true q6;have HX12:=am (show Kd.R k49 49 w11 w0.heap.size (fun k_ => (P0_ k_ ∨ w.heap.size ≤ k_)) (.slice (some ⟨go5,0,none⟩) x0_1.length co9) y297 from qq92);obtain ⟨ce12,hcl12,hM12,hcc12,hfr12⟩:=Kd.R_elem HX12.out z49 (x5_1 : Int) (odt qq100) qq19;obtain rfl:=k49_openM hM12;have HP12:=Kd.R_seg HX12.out (x5_1 : Int) (odt qq100) qq19 (seg:=[.int .i64 (wrap64 (x1_1 + 1))]) (j:=1) hcl12 hcc12 (show 2 ≤ 4 from by decide) (x':=(⟨(rd_T49 y297 x5_1).f0,wrap64 (x1_1 + 1),(rd_T49 y297 x5_1).f2,(rd_T49 y297 x5_1).f3⟩ : S49)) (k49_mkM _ _ _ (⟨(rd_T49 y297 x5_1).f0,wrap64 (x1_1 + 1),(rd_T49 y297 x5_1).f2,(rd_T49 y297 x5_1).f3⟩ : S49) ) (fun _ hk => hk);have hx12_1:=hcc12 1 _ rfl;(try simp only [show (k49).sz = 4 from rfl,Nat.mul_one,Nat.add_zero] at hx12_1);have hf12_1:=hfr12 1;(try simp only [show (k49).sz = 4 from rfl,Nat.mul_one,Nat.add_zero] at hf12_1);clear hcl12 hcc12 hfr12 hM12) | ((with_reducible refine gate_store (t:=3) (p:=23) rfl ?_);refine store_event (t:=3) (p:=23) (v:=?vo_w13) (w1:=(w11.setCell ⟨go5,(x5_1 : Int).toNat * 4 + 1,none⟩ (.int .i64 (wrap64 (x1_1 + 1))))) ?hg ?ho ?hn ?hr ?_;(case ho => rfl);(case hg => rfl);(case hn => rfl);(case hr => exact qq103);intro w13 hw;have hg : w11.grownBy w13 (some go5):=(by rw [hw];exact HP12.2);have hp_ : Kd.R k49 49 w13 w0.heap.size (fun k_ => (P0_ k_ ∨ w.heap.size ≤ k_)) (.slice (some ⟨go5,0,none⟩) x0_1.length co9) y298:=(by rw [hw,Ny298.out];exact HP12.1);clear HP12;replace HB:=am ((qq102 : Below w0.heap.size w0 w13));replace HK:=am qq116;replace HO_0:=am (hp_);clear hg hw hp_;have p7 : 0 ≤ (x5_1 : Int):=odt qq100;have q7 : (x5_1 : Int) < ((x0_1.length : Int) : Int):=odt qq100;obtain ⟨ce7,hcl7,hM7,hcc7,hfr7⟩:=Kd.R_elem HO_0.out z49 (x5_1 : Int) p7 q7;obtain rfl:=k49_openM hM7;have hx7_0 : w13.cell? ⟨go5,(x5_1 : Int).toNat * 4,none⟩ = some (.int .i64 ((rd_T49 y298 x5_1).f0)):=hcc7 0 _ rfl;have hx7_1 : w13.cell? ⟨go5,(x5_1 : Int).toNat * 4 + 1,none⟩ = some (.int .i64 ((rd_T49 y298 x5_1).f1)):=hcc7 1 _ rfl;have hx7_2 : w13.cell? ⟨go5,(x5_1 : Int).toNat * 4 + 2,none⟩ = some (.int .i64 ((rd_T49 y298 x5_1).f2)):=hcc7 2 _ rfl;have hx7_3 : w13.cell? ⟨go5,(x5_1 : Int).toNat * 4 + 3,none⟩ = some (.bool ((rd_T49 y298 x5_1).f3)):=hcc7 3 _ rfl;have hf7_0 : w13.frozen? ⟨go5,(x5_1 : Int).toNat * 4,none⟩ = false:=hfr7 0;have hf7_1 : w13.frozen? ⟨go5,(x5_1 : Int).toNat * 4 + 1,none⟩ = false:=hfr7 1;have hf7_2 : w13.frozen? ⟨go5,(x5_1 : Int).toNat * 4 + 2,none⟩ = false:=hfr7 2;have hf7_3 : w13.frozen? ⟨go5,(x5_1 : Int).toNat * 4 + 3,none⟩ = false:=hfr7 3;clear hcl7 hcc7 hfr7;(try clear hM7);replace p7:=eq_true p7;replace q7:=eq_true q7;have HX14:=am (show Kd.R k49 49 w13 w0.heap.size (fun k_ => (P0_ k_ ∨ w.heap.size ≤ k_)) (.slice (some ⟨go5,0,none⟩) x0_1.length co9) y298 from qq92);obtain ⟨ce14,hcl14,hM14,hcc14,hfr14⟩:=Kd.R_elem HX14.out z49 (x5_1 : Int) (odt qq100) qq19;obtain rfl:=k49_openM hM14;have HP14:=Kd.R_seg HX14.out (x5_1 : Int) (odt qq100) qq19 (seg:=[.int .i64 (wrap64 ((wrap64 (x1_1 + 1)) + 1))]) (j:=2) hcl14 hcc14 (show 3 ≤ 4 from by decide) (x':=(⟨(rd_T49 y298 x5_1).f0,(rd_T49 y298 x5_1).f1,wrap64 ((wrap64 (x1_1 + 1)) + 1),(rd_T49 y298 x5_1).f3⟩ : S49)) (k49_mkM _ _ _ (⟨(rd_T49 y298 x5_1).f0,(rd_T49 y298 x5_1).f1,wrap64 ((wrap64 (x1_1 + 1)) + 1),(rd_T49 y298 x5_1).f3⟩ : S49) ) (fun _ hk => hk);have hx14_2:=hcc14 2 _ rfl;(try simp only [show (k49).sz = 4 from rfl,Nat.mul_one,Nat.add_zero] at hx14_2);have hf14_2:=hfr14 2;(try simp only [show (k49).sz = 4 from rfl,Nat.mul_one,Nat.add_zero] at hf14_2);clear hcl14 hcc14 hfr14 hM14) | ((with_reducible refine gate_store (t:=3) (p:=30) rfl ?_);refine store_event (t:=3) (p:=30) (v:=?vo_w15) (w1:=(w13.setCell ⟨go5,(x5_1 : Int).toNat * 4 + 2,none⟩ (.int .i64 (wrap64 ((wrap64 (x1_1 + 1)) + 1))))) ?hg ?ho ?hn ?hr ?_;(case ho => rfl);(case hg => rfl);(case hn => rfl);(case hr => exact qq103);intro w15 hw;have hg : w13.grownBy w15 (some go5):=(by rw [hw];exact HP14.2);have hp_ : Kd.R k49 49 w15 w0.heap.size (fun k_ => (P0_ k_ ∨ w.heap.size ≤ k_)) (.slice (some ⟨go5,0,none⟩) x0_1.length co9) y299:=(by rw [hw,Ny299.out];exact HP14.1);clear HP14;replace HB:=am ((qq102 : Below w0.heap.size w0 w15));replace HK:=am qq116;replace HO_0:=am (hp_);clear hg hw hp_;have p8 : 0 ≤ (x5_1 : Int):=odt qq100;have q8 : (x5_1 : Int) < ((x0_1.length : Int) : Int):=odt qq100;obtain ⟨ce8,hcl8,hM8,hcc8,hfr8⟩:=Kd.R_elem HO_0.out z49 (x5_1 : Int) p8 q8;obtain rfl:=k49_openM hM8;have hx8_0 : w15.cell? ⟨go5,(x5_1 : Int).toNat * 4,none⟩ = some (.int .i64 ((rd_T49 y299 x5_1).f0)):=hcc8 0 _ rfl;have hx8_1 : w15.cell? ⟨go5,(x5_1 : Int).toNat * 4 + 1,none⟩ = some (.int .i64 ((rd_T49 y299 x5_1).f1)):=hcc8 1 _ rfl;have hx8_2 : w15.cell? ⟨go5,(x5_1 : Int).toNat * 4 + 2,none⟩ = some (.int .i64 ((rd_T49 y299 x5_1).f2)):=hcc8 2 _ rfl;have hx8_3 : w15.cell? ⟨go5,(x5_1 : Int).toNat * 4 + 3,none⟩ = some (.bool ((rd_T49 y299 x5_1).f3)):=hcc8 3 _ rfl;have hf8_0 : w15.frozen? ⟨go5,(x5_1 : Int).toNat * 4,none⟩ = false:=hfr8 0;have hf8_1 : w15.frozen? ⟨go5,(x5_1 : Int).toNat * 4 + 1,none⟩ = false:=hfr8 1;have hf8_2 : w15.frozen? ⟨go5,(x5_1 : Int).toNat * 4 + 2,none⟩ = false:=hfr8 2;have hf8_3 : w15.frozen? ⟨go5,(x5_1 : Int).toNat * 4 + 3,none⟩ = false:=hfr8 3;clear hcl8 hcc8 hfr8;(try clear hM8);replace p8:=eq_true p8;replace q8:=eq_true q8;have HX16:=am (show Kd.R k49 49 w15 w0.heap.size (fun k_ => (P0_ k_ ∨ w.heap.size ≤ k_)) (.slice (some ⟨go5,0,none⟩) x0_1.length co9) y299 from qq92);obtain ⟨ce16,hcl16,hM16,hcc16,hfr16⟩:=Kd.R_elem HX16.out z49 (x5_1 : Int) (odt qq100) qq19;obtain rfl:=k49_openM hM16;have HP16:=Kd.R_seg HX16.out (x5_1 : Int) (odt qq100) qq19 (seg:=[.bool ((Int.tmod (wrap64 ((wrap64 ((wrap64 (x1_1 + 1)) + 1)) + 1)) 3) == 0)]) (j:=3) hcl16 hcc16 (show 4 ≤ 4 from by decide) (x':=(⟨(rd_T49 y299 x5_1).f0,(rd_T49 y299 x5_1).f1,(rd_T49 y299 x5_1).f2,((Int.tmod (wrap64 ((wrap64 ((wrap64 (x1_1 + 1)) + 1)) + 1)) 3) == 0)⟩ : S49)) (k49_mkM _ _ _ (⟨(rd_T49 y299 x5_1).f0,(rd_T49 y299 x5_1).f1,(rd_T49 y299 x5_1).f2,((Int.tmod (wrap64 ((wrap64 ((wrap64 (x1_1 + 1)) + 1)) + 1)) 3) == 0)⟩ : S49) ) (fun _ hk => hk);have hx16_3:=hcc16 3 _ rfl;(try simp only [show (k49).sz = 4 from rfl,Nat.mul_one,Nat.add_zero] at hx16_3);have hf16_3:=hfr16 3;(try simp only [show (k49).sz = 4 from rfl,Nat.mul_one,Nat.add_zero] at hf16_3);clear hcl16 hcc16 hfr16 hM16) | ((with_reducible refine gate_store (t:=4) (p:=39) rfl ?_);refine store_event (t:=4) (p:=39) (v:=?vo_w17) (w1:=(w15.setCell ⟨go5,(x5_1 : Int).toNat * 4 + 3,none⟩ (.bool ((Int.tmod (wrap64 ((wrap64 ((wrap64 (x1_1 + 1)) + 1)) + 1)) 3) == 0)))) ?hg ?ho ?hn ?hr ?_;(case ho => rfl);(case hg => rfl);(case hn => rfl);(case hr => exact qq103);intro w17 hw;have hg : w15.grownBy w17 (some go5):=(by rw [hw];exact HP16.2);have hp_ : Kd.R k49 49 w17 w0.heap.size (fun k_ => (P0_ k_ ∨ w.heap.size ≤ k_)) (.slice (some ⟨go5,0,none⟩) x0_1.length co9) y300:=(by rw [hw,Ny300.out];exact HP16.1);clear HP16;replace HB:=am ((qq102 : Below w0.heap.size w0 w17));replace HK:=am qq116;replace HO_0:=am (hp_);clear hg hw hp_))
     go_roundg k1
     case measure => have:=HK1.out;omega
     case rel => exact ⟨(y300),(wrap64 ((wrap64 ((wrap64 ((wrap64 (x1_1 + 1)) + 1)) + 1)) + 1)),(wrap64 (x5_1 + 1)),qq101,qq101,H',⟨qq108⟩,⟨qq92⟩,⟨qq68⟩,⟨qq71⟩⟩
    ·rw [if_neg c4] at H;exact absurd H (by simp)
   ·rw [if_neg c3] at H;have c3b0 : decide (x5_1 < (x0_1.length : Int)) = false:=decide_eq_false c3;clear c3;simp only [Option.some.injEq,Prod.mk.injEq] at H;obtain ⟨rfl,rfl⟩:=H;obtain ⟨Ao18,co18,eo18⟩:=Kd.R_slice HO_0.out;subst eo18;go_wp2
    go_ret
    exact ⟨qq89,qq92,qq71,qq68⟩

-- NOT PRINTED: function 4 (laws_FnExactPutUp)

end Go.Proofs.Ytnghncedinngoaa.PFnExactPutUp
