/- Contracts of functions that the law FnPlans reaches, for its row: lines that the kit's printer wrote for this claim, set shorter by a program of this session (own.py), and what fell in Lean proved anew. Lean checks them. -/
import Derived.Test.YtcbkknpmeknppaaSFnPlansx0
import Derived.Test.YtcbkknpmeknppaaSFnPlansx1
import Derived.Test.YtcbkknpmeknppaaSFnPlansx2
import Derived.Test.YtcbkknpmeknppaaSFnPlansx3
import Derived.Test.YtcbkknpmeknppaaSFnPlansx14
import Derived.Test.YtcbkknpmeknppaaSFnPlansx17
namespace Go.Proofs.Ytcbkknpmeknppaa.PFnPlans
open Go.RowKit Go.Proofs.YtcbkknpmeknppaaW.PrintWords Go.Proofs.YtcbkknpmeknppaaW.PrintLast Go.Proofs.YtcbkknpmeknppaaW.PrintMore
attribute [local go_sem] max2_int min2_int max_two min_two max_three min_three max_four min_four   -- for this text's walks alone
set_option linter.unusedVariables false
set_option linter.unusedSimpArgs false

/-! ### impl_MayStorm: function 83 -/
def impl_MayStorm.f (k : Nat) (a0_0 : Int) (a0_1 : Int) (l1 : List Bool) : Option (Bool) := (impl_IsRule.f a0_0 a0_1).bind fun t615 => (if t615 = true then ((impl_last.f l1 (wrap64 (a0_1 - 1))).bind fun t616 => ((impl_CountStorms.f k t616).bind fun t619 => (some (decide (t619 < a0_0))))) else (some false))
def impl_MayStorm.T1 : Bool × List (List Nat × List Nat) := (true, [([], []), ([0], [0]), ([1, 1], [1]), ([2], [2]), ([2], [2]), ([4, 2], [2, 4]), ([5, 2], [2, 5]), ([3, 6, 2, 2], [2, 3, 6]), ([7, 7, 2], [2, 7]), ([2], [2]), ([9, 2], [2, 9]), ([8, 10, 2], [2, 8, 10]), ([2, 11], [2, 11]), ([12, 8, 0, 1, 2, 3, 4, 5, 6, 7, 8, 9, 10, 11, 12], [12])])
def impl_MayStorm.B1 : List Nat := [0, 1, 3, 7, 7, 23, 55, 127, 255, 7, 519, 2047, 4095, 8191]
theorem impl_MayStorm.tab1 : rtab .any (opsOf Try.f83 1) = impl_MayStorm.T1 := by kernel_rfl
theorem impl_MayStorm.bits1 : waitsOk impl_MayStorm.T1.2 impl_MayStorm.B1 = true := by kernel_rfl
set_option maxHeartbeats 8000000 in
set_option maxRecDepth 100000 in
theorem impl_MayStorm.calls (k : Nat) (a0_0 : Int) (a0_1 : Int) (A1 : Option Addr) (c1 : Nat) (l1 : List Bool) (r : Bool) (w : World) (hr1 : Kd.C Kd.bool w A1 l1.length l1) (hc1 : l1.length ≤ c1) (h : impl_MayStorm.f k a0_0 a0_1 l1 = some r) :
  Calls Try.prog 83 #[.agg #[.int .i64 a0_0,.int .i64 a0_1],.slice A1 l1.length c1] w fun e w' => e = .returned (.bool r) ∧ Below w.heap.size w w':=by
 have hu37:=Try.underlying37;have HR1:=am hr1;have HC1:=am hc1;clear hr1 hc1;have HB:=am (Below.refl w.heap.size w);have H : ((impl_IsRule.f a0_0 a0_1).bind fun t615 => (if t615 = true then ((impl_last.f l1 (wrap64 (a0_1 - 1))).bind fun t616 => ((impl_CountStorms.f k t616).bind fun t619 => (some (decide (t619 < a0_0))))) else (some false))) = some r:=h;clear h;replace H:=bS.mp H;obtain ⟨t615,A30,H⟩:=H;replace H : (if t615 = true then ((impl_last.f l1 (wrap64 (a0_1 - 1))).bind fun t616 => ((impl_CountStorms.f k t616).bind fun t619 => (some (decide (t619 < a0_0))))) else (some false)) = some r:=H;have A3:=am A30;clear A30
 by_cases c4 : t615 = true
 ·subst c4;have H1 : ((impl_last.f l1 (wrap64 (a0_1 - 1))).bind fun t616 => ((impl_CountStorms.f k t616).bind fun t619 => (some (decide (t619 < a0_0))))) = some r:=by rw [if_pos rfl] at H;exact H
  clear H;have H:=H1;clear H1;replace H:=bS.mp H;obtain ⟨t616,A50,H⟩:=H;replace H : ((impl_CountStorms.f k t616).bind fun t619 => (some (decide (t619 < a0_0)))) = some r:=H;have A5:=am A50;clear A50;replace H:=bS.mp H;obtain ⟨t619,A60,H⟩:=H;replace H : (some (decide (t619 < a0_0))) = some r:=H;have A6:=am A60;clear A60;obtain rfl:=Option.some.inj H
  go_enter Try.func83,Try.ntmps83
  try go_wp2_with (first | ((with_reducible refine gate_dst (N:=2) rfl ?_);refine box_event ?hg (N:=2) ?hd (cs:=#[.int .i64 a0_0,.int .i64 a0_1]) (t:=37) ?hr ?_;(case hd => rfl);(case hg => rfl);(case hr => exact qq296);intro gb614 hg w7 hbox hb;have BK614:=am (hbox);have GW614:=am ((qq149 : w.heap.size ≤ gb614));have GE614:=am ((qq149 : w.heap.size ≤ gb614));replace HB:=am (below_step qq197 hb);clear hb hbox hg))
  replace BK614:=am (blk_drew BK614.out);replace HB:=am (below_drew1 HB.out);refine start_ (n:=14) (S:=fun w' => w'.cell? ⟨gb614,0,none⟩ = some (.int .i64 a0_0) ∧ w'.cell? ⟨gb614,1,none⟩ = some (.int .i64 a0_1)) (ds:=[]) #[Z,Z,Z,Z,Z,Z,Z,Z,Z,Z,Z,Z,Z,Z] (by kernel_rfl) rfl rfl ⟨(blk_cell BK614.out 0).trans rfl,(blk_cell BK614.out 1).trans rfl⟩ (fun hHeld => ?_);refine with_tabW impl_MayStorm.tab1 impl_MayStorm.bits1 (fun HT_ HW_ => ?_)
  generalize w7.drew = w8 at BK614 HB hHeld ⊢
  refine tV2 (i:=0) (N:=some 5) #[Y,Z,Z,Z,Z,Z,Z,Z,Z,Z,Z,Z,Z,Z] rfl rfl (take_ofW HT_.out HW_.out (by kernel_rfl)) hHeld ?_
  refine one_ (i:=1) (N:=some 6) #[Y,Y,Z,Z,Z,Z,Z,Z,Z,Z,Z,Z,Z,Z] rfl rfl (one_of HT_.out (by kernel_rfl)) (by decide) (fun K hK => ?_);refine goes_ Try.func26 (by kernel_rfl) rfl #[.agg #[.int .i64 a0_0,.int .i64 a0_1]] (by rfl) rfl rfl qq177 ?_;with_reducible refine (impl_IsRule.calls a0_0 a0_1 true _ A3.out).mono ?_
  rintro e w9 ⟨rfl,hb⟩
  refine ⟨_,rfl,?_⟩;replace BK614:=am (blk_below (g:=gb614) (o:=.cells #[.int .i64 a0_0,.int .i64 a0_1] 37 (0,0)) qq209 hb);replace HB:=am (below_step qq153 hb);(try clear hb);(try clear hb2);(try clear hk);(try clear hi);refine hK.out _ _ ⟨(blk_cell BK614.out 0).trans rfl,(blk_cell BK614.out 1).trans rfl⟩ (fun hHeld => ?_);clear hK K;refine norm_ (a':=?_) ?_ ?_;rotate_left
  ·show Act.put _ (some 6) _ = _
   simp only [Act.put,sA,s0,s1,i64_w,i32_w];rfl
  refine pV (i:=2) (N:=some 7) #[Y,Y,Y,Z,Z,Z,Z,Z,Z,Z,Z,Z,Z,Z] rfl rfl qT ?_
  refine pV (i:=3) (N:=some 8) #[Y,Y,Y,Y,Z,Z,Z,Z,Z,Z,Z,Z,Z,Z] rfl rfl qT ?_
  refine pV (i:=4) (N:=some 9) #[Y,Y,Y,Y,Y,Z,Z,Z,Z,Z,Z,Z,Z,Z] rfl rfl qT ?_
  refine pV (i:=9) (N:=some 14) #[Y,Y,Y,Y,Y,Z,Z,Z,Z,Y,Z,Z,Z,Z] rfl rfl qT ?_
  refine tV2 (i:=5) (N:=some 10) #[Y,Y,Y,Y,Y,Y,Z,Z,Z,Y,Z,Z,Z,Z] rfl rfl (take_ofW HT_.out HW_.out (by kernel_rfl)) hHeld ?_
  refine pV (i:=6) (N:=some 11) #[Y,Y,Y,Y,Y,Y,Y,Z,Z,Y,Z,Z,Z,Z] rfl rfl qT ?_
  refine tV2 (i:=10) (N:=some 15) #[Y,Y,Y,Y,Y,Y,Y,Z,Z,Y,Y,Z,Z,Z] rfl rfl (take_ofW HT_.out HW_.out (by kernel_rfl)) hHeld ?_
  refine one_ (i:=7) (N:=some 12) #[Y,Y,Y,Y,Y,Y,Y,Y,Z,Y,Y,Z,Z,Z] rfl rfl (one_of HT_.out (by kernel_rfl)) (by decide) (fun K hK => ?_);refine goes_ Try.func123 (by kernel_rfl) rfl #[.slice A1 l1.length c1,.int .i64 (wrap64 (a0_1 - 1))] (by rfl) rfl rfl qq177 ?_;with_reducible refine (impl_last.calls (fun k_ => k_ < w.heap.size) _ _ l1 (wrap64 (a0_1 - 1)) t616 _ ?side1 A5.out).mono ?_
  (case side1 => exact Kd.V_mk HC1.out (Kd.F_below (Kd.C_F Kd.heap_bool HR1.out) qq153))
  rintro e w10 ⟨v617,rfl,ho0,hb⟩
  refine ⟨_,rfl,?_⟩;have HO618:=am (Kd.V_lower (Kd.V_mono (ok':=fun k_ => k_ ≠ gb614) ho0 (fun k_ hk_ => Or.elim hk_ (fun hs_ => fun e_ => Nat.not_le.2 hs_ (by rw [e_];exact GW614.out)) (fun hn_ => (Kd.freshB (g:=gb614) (o:=.cells #[.int .i64 a0_0,.int .i64 a0_1] 37 (0,0)) qq209 k_ hn_)))) (below_size qq153));replace BK614:=am (blk_below (g:=gb614) (o:=.cells #[.int .i64 a0_0,.int .i64 a0_1] 37 (0,0)) qq209 hb);replace HB:=am (below_step qq153 hb);(try clear hb);(try clear hb2);(try clear hk);(try clear hi);(try clear ho0);obtain ⟨Ao11,co11,eo11⟩:=Kd.V_slice HO618.out;(first | subst eo11 | (injection eo11 with f1_ f2_ f3_;have f4_:=f1_.symm;have f5_:=f3_.symm;clear f1_ f2_ f3_;subst f4_;subst f5_));refine hK.out _ _ ⟨(blk_cell BK614.out 0).trans rfl,(blk_cell BK614.out 1).trans rfl⟩ (fun hHeld => ?_);clear hK K;refine norm_ (a':=?_) ?_ ?_;rotate_left
  ·show Act.put _ (some 12) _ = _
   simp only [Act.put,sA,s0,s1,i64_w,i32_w];rfl
  refine one_ (i:=8) (N:=some 13) #[Y,Y,Y,Y,Y,Y,Y,Y,Y,Y,Y,Z,Z,Z] rfl rfl (one_of HT_.out (by kernel_rfl)) (by decide) (fun K hK => ?_);refine goes_ Try.func124 (by kernel_rfl) rfl #[.slice Ao11 t616.length co11] (by rfl) rfl rfl qq177 ?_;with_reducible refine (impl_CountStorms.calls k _ _ t616 t619 _ ?side1 ?side2 A6.out).mono ?_
  (case side1 => repeat (first | exact (Kd.V_reads' HO618.out).2.2 | (with_reducible refine cA ?_ _) | (with_reducible refine cN ?_ _) | (with_reducible refine cD ?_)));(case side2 => exact (Kd.V_reads' HO618.out).2.1)
  rintro e w' ⟨rfl,⟨nd,rfl⟩⟩
  refine ⟨_,rfl,?_⟩;refine hK.out _ _ ⟨(blk_cell BK614.out 0).trans rfl,(blk_cell BK614.out 1).trans rfl⟩ (fun hHeld => ?_);clear hK K;refine norm_ (a':=?_) ?_ ?_;rotate_left
  ·show Act.put _ (some 13) _ = _
   simp only [Act.put,sA,s0,s1,i64_w,i32_w];rfl
  refine pV (i:=11) (N:=some 16) #[Y,Y,Y,Y,Y,Y,Y,Y,Y,Y,Y,Y,Z,Z] rfl rfl qT ?_
  refine pV (i:=12) (N:=some 17) #[Y,Y,Y,Y,Y,Y,Y,Y,Y,Y,Y,Y,Y,Z] rfl rfl qT ?_
  refine pV (i:=13) (N:=some 4) #[Y,Y,Y,Y,Y,Y,Y,Y,Y,Y,Y,Y,Y,Y] rfl rfl qT ?_
  refine done_ (done_of HT_.out (by kernel_rfl)) ?_
  try go_wp2
  go_ret
  exact ⟨qq246,qq153⟩
 ·replace c4:=Bool.eq_false_iff.mpr c4;subst c4;have H1 : (some false) = some r:=by rw [if_neg (show ¬ (false = true) by decide)] at H;exact H
  clear H;have H:=H1;clear H1;obtain rfl:=Option.some.inj H
  go_enter Try.func83,Try.ntmps83
  try go_wp2_with (first | ((with_reducible refine gate_dst (N:=2) rfl ?_);refine box_event ?hg (N:=2) ?hd (cs:=#[.int .i64 a0_0,.int .i64 a0_1]) (t:=37) ?hr ?_;(case hd => rfl);(case hg => rfl);(case hr => exact qq296);intro gb614 hg w12 hbox hb;have BK614:=am (hbox);have GW614:=am ((qq149 : w.heap.size ≤ gb614));have GE614:=am ((qq149 : w.heap.size ≤ gb614));replace HB:=am (below_step qq197 hb);clear hb hbox hg))
  replace BK614:=am (blk_drew BK614.out);replace HB:=am (below_drew1 HB.out);refine start_ (n:=14) (S:=fun w' => w'.cell? ⟨gb614,0,none⟩ = some (.int .i64 a0_0) ∧ w'.cell? ⟨gb614,1,none⟩ = some (.int .i64 a0_1)) (ds:=[]) #[Z,Z,Z,Z,Z,Z,Z,Z,Z,Z,Z,Z,Z,Z] (by kernel_rfl) rfl rfl ⟨(blk_cell BK614.out 0).trans rfl,(blk_cell BK614.out 1).trans rfl⟩ (fun hHeld => ?_);refine with_tabW impl_MayStorm.tab1 impl_MayStorm.bits1 (fun HT_ HW_ => ?_)
  generalize w12.drew = w13 at BK614 HB hHeld ⊢
  refine tV2 (i:=0) (N:=some 5) #[Y,Z,Z,Z,Z,Z,Z,Z,Z,Z,Z,Z,Z,Z] rfl rfl (take_ofW HT_.out HW_.out (by kernel_rfl)) hHeld ?_
  refine one_ (i:=1) (N:=some 6) #[Y,Y,Z,Z,Z,Z,Z,Z,Z,Z,Z,Z,Z,Z] rfl rfl (one_of HT_.out (by kernel_rfl)) (by decide) (fun K hK => ?_);refine goes_ Try.func26 (by kernel_rfl) rfl #[.agg #[.int .i64 a0_0,.int .i64 a0_1]] (by rfl) rfl rfl qq177 ?_;with_reducible refine (impl_IsRule.calls a0_0 a0_1 false _ A3.out).mono ?_
  rintro e w14 ⟨rfl,hb⟩
  refine ⟨_,rfl,?_⟩;replace BK614:=am (blk_below (g:=gb614) (o:=.cells #[.int .i64 a0_0,.int .i64 a0_1] 37 (0,0)) qq209 hb);replace HB:=am (below_step qq153 hb);(try clear hb);(try clear hb2);(try clear hk);(try clear hi);refine hK.out _ _ ⟨(blk_cell BK614.out 0).trans rfl,(blk_cell BK614.out 1).trans rfl⟩ (fun hHeld => ?_);clear hK K;refine norm_ (a':=?_) ?_ ?_;rotate_left
  ·show Act.put _ (some 6) _ = _
   simp only [Act.put,sA,s0,s1,i64_w,i32_w];rfl
  refine pV (i:=2) (N:=some 7) #[Y,Y,Y,Z,Z,Z,Z,Z,Z,Z,Z,Z,Z,Z] rfl rfl qT ?_
  refine pW (i:=3) (N:=some 8) #[Y,Y,Y,Y,Z,Z,Z,Z,Z,Z,Z,Z,Z,Z] rfl rfl qT ?_
  refine pW (i:=4) (N:=some 9) #[Y,Y,Y,Y,Y,Z,Z,Z,Z,Z,Z,Z,Z,Z] rfl rfl qT ?_
  refine pW (i:=5) (N:=some 10) #[Y,Y,Y,Y,Y,Y,Z,Z,Z,Z,Z,Z,Z,Z] rfl rfl qT ?_
  refine pW (i:=6) (N:=some 11) #[Y,Y,Y,Y,Y,Y,Y,Z,Z,Z,Z,Z,Z,Z] rfl rfl qT ?_
  refine pW (i:=7) (N:=some 12) #[Y,Y,Y,Y,Y,Y,Y,Y,Z,Z,Z,Z,Z,Z] rfl rfl qT ?_
  refine pW (i:=8) (N:=some 13) #[Y,Y,Y,Y,Y,Y,Y,Y,Y,Z,Z,Z,Z,Z] rfl rfl qT ?_
  refine pW (i:=9) (N:=some 14) #[Y,Y,Y,Y,Y,Y,Y,Y,Y,Y,Z,Z,Z,Z] rfl rfl qT ?_
  refine pW (i:=10) (N:=some 15) #[Y,Y,Y,Y,Y,Y,Y,Y,Y,Y,Y,Z,Z,Z] rfl rfl qT ?_
  refine pW (i:=11) (N:=some 16) #[Y,Y,Y,Y,Y,Y,Y,Y,Y,Y,Y,Y,Z,Z] rfl rfl qT ?_
  refine pV (i:=12) (N:=some 17) #[Y,Y,Y,Y,Y,Y,Y,Y,Y,Y,Y,Y,Y,Z] rfl rfl qT ?_
  refine pV (i:=13) (N:=some 4) #[Y,Y,Y,Y,Y,Y,Y,Y,Y,Y,Y,Y,Y,Y] rfl rfl qT ?_
  refine done_ (done_of HT_.out (by kernel_rfl)) ?_
  try go_wp2
  go_ret
  exact ⟨qq246,qq153⟩

/-! ### impl_WorstDays: function 23 -/
mutual
def impl_WorstDays.j0 : Nat → List Bool → Int → Bool → Int → Int → Option (Int)
 | 0,_,_,_,_,_ => none
 | k + 1,x1,x2,x21,x621000,x621001 => if x21 = true then (some (-1)) else (impl_WorstDays.l0 k x1 x2 0 x621000 x621001)
def impl_WorstDays.l0 : Nat → List Bool → Int → Int → Int → Int → Option (Int)
 | 0,_,_,_,_,_ => none
 | k + 1,x1,x2,x7,x621000,x621001 => if x2 > 0 then ((impl_MayStorm.f k x621000 x621001 x1).bind fun t623 => (if t623 = true then ((impl_AddDay.f x1 t623).bind fun t624 => (impl_WorstDays.l0 k t624 x2 (wrap64 (x7 + 1)) x621000 x621001)) else ((impl_AddDay.f x1 t623).bind fun t627 => (impl_WorstDays.l0 k t627 (wrap64 (x2 - 1)) (wrap64 (x7 + 1)) x621000 x621001)))) else (some x7)
end
def impl_WorstDays.f (k : Nat) (a0_0 : Int) (a0_1 : Int) (l1 : List Bool) (a2 : Int) : Option (Int) := (impl_IsRule.f a0_0 a0_1).bind fun t621 => (if t621 = true then ((impl_InRange.f a2 0 200).bind fun t622 => (if t622 = true then (impl_WorstDays.j0 k l1 a2 (decide ((l1.length : Int) > 400)) a0_0 a0_1) else (impl_WorstDays.j0 k l1 a2 true a0_0 a0_1))) else (impl_WorstDays.j0 k l1 a2 true a0_0 a0_1))
set_option maxHeartbeats 8000000 in
set_option maxRecDepth 100000 in
theorem impl_WorstDays.calls (k : Nat) (a0_0 : Int) (a0_1 : Int) (P1_ : Nat → Prop) (A1 : Option Addr) (c1 : Nat) (l1 : List Bool) (a2 : Int) (r : Int) (w : World) (hs1 : Kd.V Kd.bool 4 w w.heap.size (fun k_ => P1_ k_) (.slice A1 l1.length c1) l1) (h : impl_WorstDays.f k a0_0 a0_1 l1 a2 = some r) :
  Calls Try.prog 23 #[.agg #[.int .i64 a0_0,.int .i64 a0_1],.slice A1 l1.length c1,.int .i64 a2] w fun e w' => e = .returned (.int .i64 r) ∧ Below w.heap.size w w':=by
 have hu37:=Try.underlying37;have HO1:=am (show Kd.V Kd.bool 4 w w.heap.size (fun k_ => (P1_ k_ ∨ w.heap.size ≤ k_)) (.slice A1 l1.length c1) l1 from Kd.V_mono hs1 (fun k_ hk => .inl hk));have HB:=am (Below.refl w.heap.size w);have H : ((impl_IsRule.f a0_0 a0_1).bind fun t621 => (if t621 = true then ((impl_InRange.f a2 0 200).bind fun t622 => (if t622 = true then (impl_WorstDays.j0 k l1 a2 (decide ((l1.length : Int) > 400)) a0_0 a0_1) else (impl_WorstDays.j0 k l1 a2 true a0_0 a0_1))) else (impl_WorstDays.j0 k l1 a2 true a0_0 a0_1))) = some r:=h;clear h;have HC4:=am H;clear H
 go_enter Try.func23,Try.ntmps23
 go_upto_region 1 with (first | ((with_reducible refine gate_dst (N:=3) rfl ?_);(try (refine gate_guard (by rfl) ?_;dsimp only));refine box_event ?hg (N:=3) ?hd (cs:=#[.int .i64 a0_0,.int .i64 a0_1]) (t:=37) ?hr ?_;(case hd => rfl);(case hg => rfl);(case hr => exact qq296);intro gb620 hg w5 hbox hb;replace HO1:=am (Kd.V_below (Kd.V_elderB qq200 gb620 (Nat.le_of_eq hg.symm)) hb);have BK620:=am (hbox);have GW620:=am ((qq149 : w.heap.size ≤ gb620));have GE620:=am ((qq149 : w.heap.size ≤ gb620));replace HB:=am (below_step qq197 hb);clear hb hbox hg))
 (try simp only [Act.put,sA,s0,s1])
 go_cut [21] (fun v21 wc => ∃ (kq : Nat) (x21_3 : Bool),v21 = .bool x21_3 ∧ Aside0 (impl_WorstDays.j0 kq l1 a2 x21_3 a0_0 a0_1 = some r) ∧ Aside0 (kq ≤ k) ∧ Aside0 (Kd.V Kd.bool 4 wc w.heap.size (fun k_ => (P1_ k_ ∨ w.heap.size ≤ k_) ∧ k_ ≠ gb620) (.slice A1 l1.length c1) l1) ∧ Aside0 (wc.heap[gb620]? = some (.cells #[.int .i64 a0_0,.int .i64 a0_1] 37 (0,0))) ∧ Aside0 (Below w.heap.size w wc))
 case first =>
  have H:=HC4.out;clear HC4;replace H:=bS.mp H;obtain ⟨t621,A60,H⟩:=H;replace H : (if t621 = true then ((impl_InRange.f a2 0 200).bind fun t622 => (if t622 = true then (impl_WorstDays.j0 k l1 a2 (decide ((l1.length : Int) > 400)) a0_0 a0_1) else (impl_WorstDays.j0 k l1 a2 true a0_0 a0_1))) else (impl_WorstDays.j0 k l1 a2 true a0_0 a0_1)) = some r:=H;have A6:=am A60;clear A60
  by_cases c7 : t621 = true
  ·subst c7;have H1 : ((impl_InRange.f a2 0 200).bind fun t622 => (if t622 = true then (impl_WorstDays.j0 k l1 a2 (decide ((l1.length : Int) > 400)) a0_0 a0_1) else (impl_WorstDays.j0 k l1 a2 true a0_0 a0_1))) = some r:=by rw [if_pos rfl] at H;exact H
   clear H;have H:=H1;clear H1;replace H:=bS.mp H;obtain ⟨t622,A80,H⟩:=H;replace H : (if t622 = true then (impl_WorstDays.j0 k l1 a2 (decide ((l1.length : Int) > 400)) a0_0 a0_1) else (impl_WorstDays.j0 k l1 a2 true a0_0 a0_1)) = some r:=H;have A8:=am A80;clear A80
   by_cases c9 : t622 = true
   ·subst c9;have H1 : (impl_WorstDays.j0 k l1 a2 (decide ((l1.length : Int) > 400)) a0_0 a0_1) = some r:=by rw [if_pos rfl] at H;exact H
    clear H;have H:=H1;clear H1;have H':=am H;clear H;obtain ⟨hcz10_0,hcz10_1,hfz10_0,hfz10_1⟩:=bcl2 BK620.out;go_wp2_with (first | ((with_reducible refine gate_callee (f:=26) rfl ?_);refine goesL_ (some 10) rfl rfl Try.func26 (by kernel_rfl) rfl #[.agg #[.int .i64 a0_0,.int .i64 a0_1]] rfl qq177 ?_;(with_reducible refine (impl_IsRule.calls a0_0 a0_1 true _ A6.out).mono ?_);rintro e w11 ⟨rfl,hb⟩;refine ⟨_,rfl,?_⟩;replace HO1:=am (Kd.V_below qq200 hb);replace BK620:=am (blk_below (g:=gb620) (o:=.cells #[.int .i64 a0_0,.int .i64 a0_1] 37 (0,0)) qq208 hb);replace HB:=am (below_step qq152 hb);(try clear hb);(try clear hb2);(try clear hk);(try clear hi)) | (go_at_call 76;(with_reducible refine (impl_InRange.calls a2 0 200 true _ A8.out).mono ?_);rintro e w' ⟨rfl,⟨nd,rfl⟩⟩))
    go_meet
    case rel => exact ⟨_,(decide ((l1.length : Int) > 400)),qq295,H',⟨qq298⟩,⟨qq200⟩,⟨qq208⟩,⟨qq152⟩⟩
   ·replace c9:=Bool.eq_false_iff.mpr c9;subst c9;have H1 : (impl_WorstDays.j0 k l1 a2 true a0_0 a0_1) = some r:=by rw [if_neg (show ¬ (false = true) by decide)] at H;exact H
    clear H;have H:=H1;clear H1;have H':=am H;clear H;obtain ⟨hcz12_0,hcz12_1,hfz12_0,hfz12_1⟩:=bcl2 BK620.out;go_wp2_with (first | ((with_reducible refine gate_callee (f:=26) rfl ?_);refine goesL_ (some 10) rfl rfl Try.func26 (by kernel_rfl) rfl #[.agg #[.int .i64 a0_0,.int .i64 a0_1]] rfl qq177 ?_;(with_reducible refine (impl_IsRule.calls a0_0 a0_1 true _ A6.out).mono ?_);rintro e w13 ⟨rfl,hb⟩;refine ⟨_,rfl,?_⟩;replace HO1:=am (Kd.V_below qq200 hb);replace BK620:=am (blk_below (g:=gb620) (o:=.cells #[.int .i64 a0_0,.int .i64 a0_1] 37 (0,0)) qq208 hb);replace HB:=am (below_step qq152 hb);(try clear hb);(try clear hb2);(try clear hk);(try clear hi)) | (go_at_call 76;(with_reducible refine (impl_InRange.calls a2 0 200 false _ A8.out).mono ?_);rintro e w' ⟨rfl,⟨nd,rfl⟩⟩))
    go_meet
    case rel => exact ⟨_,(true),qq295,H',⟨qq298⟩,⟨qq200⟩,⟨qq208⟩,⟨qq152⟩⟩
  ·replace c7:=Bool.eq_false_iff.mpr c7;subst c7;have H1 : (impl_WorstDays.j0 k l1 a2 true a0_0 a0_1) = some r:=by rw [if_neg (show ¬ (false = true) by decide)] at H;exact H
   clear H;have H:=H1;clear H1;have H':=am H;clear H;obtain ⟨hcz14_0,hcz14_1,hfz14_0,hfz14_1⟩:=bcl2 BK620.out;go_wp2_with (first | ((with_reducible refine gate_callee (f:=26) rfl ?_);refine goesL_ (some 10) rfl rfl Try.func26 (by kernel_rfl) rfl #[.agg #[.int .i64 a0_0,.int .i64 a0_1]] rfl qq177 ?_;(with_reducible refine (impl_IsRule.calls a0_0 a0_1 false _ A6.out).mono ?_);rintro e w15 ⟨rfl,hb⟩;refine ⟨_,rfl,?_⟩;replace HO1:=am (Kd.V_below qq200 hb);replace BK620:=am (blk_below (g:=gb620) (o:=.cells #[.int .i64 a0_0,.int .i64 a0_1] 37 (0,0)) qq208 hb);replace HB:=am (below_step qq152 hb);(try clear hb);(try clear hb2);(try clear hk);(try clear hi)))
   go_meet
   case rel => exact ⟨_,(true),qq295,H',⟨qq298⟩,⟨qq200⟩,⟨qq208⟩,⟨qq152⟩⟩
 case rest =>
  clear HC4
  try clear c1
  try clear c2
  try clear p2
  try clear c7
  try clear c9
  try clear hcz10_0
  try clear hcz10_1
  try clear hcz12_0
  try clear hcz12_1
  try clear hcz14_0
  try clear hcz14_1
  try clear hfz10_0
  try clear hfz10_1
  try clear hfz12_0
  try clear hfz12_1
  try clear hfz14_0
  try clear hfz14_1
  obtain ⟨kq,x21_3,rfl,HA,HJ3,HO_1,BK620,HB⟩:=hcut
  cases kq with
  | zero => exact absurd HA.out (by simp [impl_WorstDays.j0])
  | succ kj3 =>
   have H:=HA.out;clear HA;simp only [impl_WorstDays.j0] at H
   by_cases c16 : x21_3 = true
   ·subst c16;have H1 : (some (-1)) = some r:=by rw [if_pos rfl] at H;exact H
    clear H;have H:=H1;clear H1;obtain rfl:=Option.some.inj H;go_wp2
    go_ret
    exact ⟨qq246,qq152⟩
   ·replace c16:=Bool.eq_false_iff.mpr c16;subst c16;have H1 : (impl_WorstDays.l0 kj3 l1 a2 0 a0_0 a0_1) = some r:=by rw [if_neg (show ¬ (false = true) by decide)] at H;exact H
    clear H;have H:=H1;clear H1;have H':=am H;clear H;go_wp2
    go_loopg [1,2,7] kj3 (fun kq v1 v2 v7 w' => ∃ (x1_2 : List Bool) (x2_2 : Int) (x7_2 : Int),v2 = .int .i64 x2_2 ∧ v7 = .int .i64 x7_2 ∧ Aside0 (impl_WorstDays.l0 kq x1_2 x2_2 x7_2 a0_0 a0_1 = some r) ∧ Aside0 (kq ≤ kj3) ∧ Aside0 (Kd.V Kd.bool 4 w' w.heap.size (fun k_ => (P1_ k_ ∨ w.heap.size ≤ k_) ∧ k_ ≠ gb620) v1 x1_2) ∧ Aside0 (w'.heap[gb620]? = some (.cells #[.int .i64 a0_0,.int .i64 a0_1] 37 (0,0))) ∧ Aside0 (Below w.heap.size w w'))
    case atStart => exact ⟨(l1),(a2),(0),qq295,qq295,H',⟨Nat.le_refl _⟩,⟨qq198⟩,⟨qq208⟩,⟨qq152⟩⟩
    case round =>
     clear H'
     try clear c1
     try clear c2
     try clear p2
     try clear c7
     try clear c9
     try clear c16
     try clear hcz10_0
     try clear hcz10_1
     try clear hcz12_0
     try clear hcz12_1
     try clear hcz14_0
     try clear hcz14_1
     try clear hfz10_0
     try clear hfz10_1
     try clear hfz12_0
     try clear hfz12_1
     try clear hfz14_0
     try clear hfz14_1
     try clear p2
     obtain ⟨x1_2,x2_2,x7_2,rfl,rfl,HA,HK2,HO_1,BK620,HB⟩:=hrel
     cases gk with
     | zero => exact absurd HA.out (by simp [impl_WorstDays.l0])
     | succ k2 =>
      have H:=HA.out;clear HA;simp only [impl_WorstDays.l0] at H
      by_cases c17 : x2_2 > 0
      ·rw [if_pos c17] at H;have c17b0 : decide (0 < x2_2) = true:=decide_eq_true c17;clear c17;replace H:=bS.mp H;obtain ⟨t623,A180,H⟩:=H;replace H : (if t623 = true then ((impl_AddDay.f x1_2 t623).bind fun t624 => (impl_WorstDays.l0 k2 t624 x2_2 (wrap64 (x7_2 + 1)) a0_0 a0_1)) else ((impl_AddDay.f x1_2 t623).bind fun t627 => (impl_WorstDays.l0 k2 t627 (wrap64 (x2_2 - 1)) (wrap64 (x7_2 + 1)) a0_0 a0_1))) = some r:=H;have A18:=am A180;clear A180
       by_cases c19 : t623 = true
       ·subst c19;have H1 : ((impl_AddDay.f x1_2 true).bind fun t624 => (impl_WorstDays.l0 k2 t624 x2_2 (wrap64 (x7_2 + 1)) a0_0 a0_1)) = some r:=by rw [if_pos rfl] at H;exact H
        clear H;have H:=H1;clear H1;replace H:=bS.mp H;obtain ⟨t624,A200,H⟩:=H;replace H : (impl_WorstDays.l0 k2 t624 x2_2 (wrap64 (x7_2 + 1)) a0_0 a0_1) = some r:=H;have A20:=am A200;clear A200;have H':=am H;clear H;obtain ⟨hcz21_0,hcz21_1,hfz21_0,hfz21_1⟩:=bcl2 BK620.out;obtain ⟨Ao22,co22,eo22⟩:=Kd.V_slice HO_1.out;subst eo22;go_wp2_with (first | ((with_reducible refine gate_callee (f:=83) rfl ?_);refine goesL_ (some 26) rfl rfl Try.func83 (by kernel_rfl) rfl #[.agg #[.int .i64 a0_0,.int .i64 a0_1],.slice Ao22 x1_2.length co22] rfl qq177 ?_;(with_reducible refine (impl_MayStorm.calls k2 a0_0 a0_1 _ _ x1_2 true _ ?side1 ?side2 A18.out).mono ?_);(case side1 => exact qq137);(case side2 => exact qq307);rintro e w23 ⟨rfl,hb⟩;refine ⟨_,rfl,?_⟩;replace HO_1:=am (Kd.V_below qq198 hb);replace BK620:=am (blk_below (g:=gb620) (o:=.cells #[.int .i64 a0_0,.int .i64 a0_1] 37 (0,0)) qq208 hb);replace HB:=am (below_step qq152 hb);(try clear hb);(try clear hb2);(try clear hk);(try clear hi)) | ((with_reducible refine gate_callee (f:=82) rfl ?_);refine goesL_ (some 33) rfl rfl Try.func82 (by kernel_rfl) rfl #[.slice Ao22 x1_2.length co22,.bool true] rfl qq177 ?_;(with_reducible refine (impl_AddDay.calls _ _ x1_2 true t624 _ ?side1 ?side2 A20.out).mono ?_);(case side1 => exact qq137);(case side2 => exact qq307);rintro e w24 ⟨v625,rfl,ho0,hb⟩;refine ⟨_,rfl,?_⟩;replace HO_1:=am (Kd.V_elder' qq198 (Kd.R_base ho0) hb);have HO626:=am (Kd.R_lower (Kd.R_newM (M:=fun k_ => (w.heap.size ≤ k_)) ho0 (below_size qq152) (fun k_ h_ => h_)) (below_size qq152));replace BK620:=am (blk_below (g:=gb620) (o:=.cells #[.int .i64 a0_0,.int .i64 a0_1] 37 (0,0)) qq208 hb);replace HB:=am (below_step qq152 hb);(try clear hb);(try clear hb2);(try clear hk);(try clear hi);(try clear ho0)))
        go_roundg k2
        case measure => have:=HJ3.out;have:=HK2.out;omega
        case rel => exact ⟨(t624),(x2_2),(wrap64 (x7_2 + 1)),qq295,qq295,H',⟨qq300⟩,⟨Kd.V_mono (Kd.R_V (by (with_reducible repeat (first | apply kA | apply kN | apply kD));exact Kd.R_mono (ok':=fun k => w.heap.size ≤ k ∧ k ≠ gb620) (Kd.R_types HO626.out BK620.out (by decide)) (fun _ hk => ⟨hk.1.1,hk.2⟩))) (fun k_ hk => by first | exact ⟨(.inr (hk.1)),hk.2⟩ | exact (.inr (hk)))⟩,⟨qq208⟩,⟨qq152⟩⟩
       ·replace c19:=Bool.eq_false_iff.mpr c19;subst c19;have H1 : ((impl_AddDay.f x1_2 false).bind fun t627 => (impl_WorstDays.l0 k2 t627 (wrap64 (x2_2 - 1)) (wrap64 (x7_2 + 1)) a0_0 a0_1)) = some r:=by rw [if_neg (show ¬ (false = true) by decide)] at H;exact H
        clear H;have H:=H1;clear H1;replace H:=bS.mp H;obtain ⟨t627,A250,H⟩:=H;replace H : (impl_WorstDays.l0 k2 t627 (wrap64 (x2_2 - 1)) (wrap64 (x7_2 + 1)) a0_0 a0_1) = some r:=H;have A25:=am A250;clear A250;have H':=am H;clear H;obtain ⟨hcz26_0,hcz26_1,hfz26_0,hfz26_1⟩:=bcl2 BK620.out;obtain ⟨Ao27,co27,eo27⟩:=Kd.V_slice HO_1.out;subst eo27;go_wp2_with (first | ((with_reducible refine gate_callee (f:=83) rfl ?_);refine goesL_ (some 26) rfl rfl Try.func83 (by kernel_rfl) rfl #[.agg #[.int .i64 a0_0,.int .i64 a0_1],.slice Ao27 x1_2.length co27] rfl qq177 ?_;(with_reducible refine (impl_MayStorm.calls k2 a0_0 a0_1 _ _ x1_2 false _ ?side1 ?side2 A18.out).mono ?_);(case side1 => exact qq137);(case side2 => exact qq307);rintro e w28 ⟨rfl,hb⟩;refine ⟨_,rfl,?_⟩;replace HO_1:=am (Kd.V_below qq198 hb);replace BK620:=am (blk_below (g:=gb620) (o:=.cells #[.int .i64 a0_0,.int .i64 a0_1] 37 (0,0)) qq208 hb);replace HB:=am (below_step qq152 hb);(try clear hb);(try clear hb2);(try clear hk);(try clear hi)) | ((with_reducible refine gate_callee (f:=82) rfl ?_);refine goesL_ (some 33) rfl rfl Try.func82 (by kernel_rfl) rfl #[.slice Ao27 x1_2.length co27,.bool false] rfl qq177 ?_;(with_reducible refine (impl_AddDay.calls _ _ x1_2 false t627 _ ?side1 ?side2 A25.out).mono ?_);(case side1 => exact qq137);(case side2 => exact qq307);rintro e w29 ⟨v628,rfl,ho0,hb⟩;refine ⟨_,rfl,?_⟩;replace HO_1:=am (Kd.V_elder' qq198 (Kd.R_base ho0) hb);have HO629:=am (Kd.R_lower (Kd.R_newM (M:=fun k_ => (w.heap.size ≤ k_)) ho0 (below_size qq152) (fun k_ h_ => h_)) (below_size qq152));replace BK620:=am (blk_below (g:=gb620) (o:=.cells #[.int .i64 a0_0,.int .i64 a0_1] 37 (0,0)) qq208 hb);replace HB:=am (below_step qq152 hb);(try clear hb);(try clear hb2);(try clear hk);(try clear hi);(try clear ho0)))
        go_roundg k2
        case measure => have:=HJ3.out;have:=HK2.out;omega
        case rel => exact ⟨(t627),(wrap64 (x2_2 - 1)),(wrap64 (x7_2 + 1)),qq295,qq295,H',⟨qq300⟩,⟨Kd.V_mono (Kd.R_V (by (with_reducible repeat (first | apply kA | apply kN | apply kD));exact Kd.R_mono (ok':=fun k => w.heap.size ≤ k ∧ k ≠ gb620) (Kd.R_types HO629.out BK620.out (by decide)) (fun _ hk => ⟨hk.1.1,hk.2⟩))) (fun k_ hk => by first | exact ⟨(.inr (hk.1)),hk.2⟩ | exact (.inr (hk)))⟩,⟨qq208⟩,⟨qq152⟩⟩
      ·rw [if_neg c17] at H;have c17b0 : decide (0 < x2_2) = false:=decide_eq_false c17;clear c17;obtain rfl:=Option.some.inj H;go_wp2
       go_ret
       exact ⟨qq246,qq152⟩

/-! ### impl_PlanFood: function 52 -/
def impl_PlanFood.j0 : Nat → Int → Bool → Int → Int → Int → Int → List (S112) → List Bool → Option (Int)
 | 0,_,_,_,_,_,_,_,_ => none
 | k + 1,x11,x24,x632000,x632001,x633000,x633001,x633002,x633003 => if x24 = true then (some (-1)) else ((impl_WorstDays.f k x632000 x632001 x633003 x11).bind fun t635 => (if t635 < 0 then (some (-1)) else ((impl_NeedOf.f k x633002).bind fun t636 => (some (wrap64 (t635 * t636))))))
def impl_PlanFood.f (k : Nat) (a0_0 : Int) (a0_1 : Int) (l0_2 : List Int) (a1 : Int) (l2 : List (S76)) (a3_0 : Int) (a3_1 : Int) (a4_0 : Int) (a4_1 : Int) (l4_2 : List (S112)) (l4_3 : List Bool) : Option (Int) := (impl_PlanDays.f k a0_0 a0_1 l0_2 a1 l2).bind fun t633 => (if t633 < 0 then (impl_PlanFood.j0 k t633 true a3_0 a3_1 a4_0 a4_1 l4_2 l4_3) else ((impl_AreCrew.f k l4_2).bind fun t634 => (impl_PlanFood.j0 k t633 (!t634) a3_0 a3_1 a4_0 a4_1 l4_2 l4_3)))
set_option maxHeartbeats 8000000 in
set_option maxRecDepth 100000 in
theorem impl_PlanFood.calls (k : Nat) (a0_0 : Int) (a0_1 : Int) (A0_2 : Option Addr) (c0_2 : Nat) (l0_2 : List Int) (a1 : Int) (A2 : Option Addr) (c2 : Nat) (l2 : List (S76)) (a3_0 : Int) (a3_1 : Int) (a4_0 : Int) (a4_1 : Int) (A4_2 : Option Addr) (c4_2 : Nat) (l4_2 : List (S112)) (A4_3 : Option Addr) (c4_3 : Nat) (l4_3 : List Bool) (r : Int) (w : World) (hr0_2 : Kd.C (Kd.int .i64) w A0_2 l0_2.length l0_2) (hc0_2 : l0_2.length ≤ c0_2) (hr2 : Kd.C k76 w A2 l2.length l2) (hc2 : l2.length ≤ c2) (hr4_2 : Kd.C k112 w A4_2 l4_2.length l4_2) (hc4_2 : l4_2.length ≤ c4_2) (hr4_3 : Kd.C Kd.bool w A4_3 l4_3.length l4_3) (hc4_3 : l4_3.length ≤ c4_3) (h : impl_PlanFood.f k a0_0 a0_1 l0_2 a1 l2 a3_0 a3_1 a4_0 a4_1 l4_2 l4_3 = some r) :
  Calls Try.prog 52 #[.agg #[.int .i64 a0_0,.int .i64 a0_1,.slice A0_2 l0_2.length c0_2],.int .i64 a1,.slice A2 l2.length c2,.agg #[.int .i64 a3_0,.int .i64 a3_1],.agg #[.int .i64 a4_0,.int .i64 a4_1,.slice A4_2 l4_2.length c4_2,.slice A4_3 l4_3.length c4_3]] w fun e w' => e = .returned (.int .i64 r) ∧ Below w.heap.size w w':=by
 have hu51:=Try.underlying51;have hu37:=Try.underlying37;have hu27:=Try.underlying27;have HR0_2:=am hr0_2;have HC0_2:=am hc0_2;clear hr0_2 hc0_2;have HR2:=am hr2;have HC2:=am hc2;clear hr2 hc2;have HR4_2:=am hr4_2;have HC4_2:=am hc4_2;clear hr4_2 hc4_2;have HR4_3:=am hr4_3;have HC4_3:=am hc4_3;clear hr4_3 hc4_3;have HB:=am (Below.refl w.heap.size w);have H : ((impl_PlanDays.f k a0_0 a0_1 l0_2 a1 l2).bind fun t633 => (if t633 < 0 then (impl_PlanFood.j0 k t633 true a3_0 a3_1 a4_0 a4_1 l4_2 l4_3) else ((impl_AreCrew.f k l4_2).bind fun t634 => (impl_PlanFood.j0 k t633 (!t634) a3_0 a3_1 a4_0 a4_1 l4_2 l4_3)))) = some r:=h;clear h;replace H:=bS.mp H;obtain ⟨t633,A60,H⟩:=H;replace H : (if t633 < 0 then (impl_PlanFood.j0 k t633 true a3_0 a3_1 a4_0 a4_1 l4_2 l4_3) else ((impl_AreCrew.f k l4_2).bind fun t634 => (impl_PlanFood.j0 k t633 (!t634) a3_0 a3_1 a4_0 a4_1 l4_2 l4_3))) = some r:=H;have A6:=am A60;clear A60;have HC7:=am H;clear H
 go_enter Try.func52,Try.ntmps52
 go_upto_region 2 with (first | ((with_reducible refine gate_dst (N:=5) rfl ?_);refine box_event ?hg (N:=5) ?hd (cs:=#[.int .i64 a0_0,.int .i64 a0_1,.slice A0_2 l0_2.length c0_2]) (t:=51) ?hr ?_;(case hd => rfl);(case hg => rfl);(case hr => exact qq296);intro gb630 hg w8 hbox hb;have BK630:=am (hbox);have GW630:=am ((qq149 : w.heap.size ≤ gb630));have GE630:=am ((qq149 : w.heap.size ≤ gb630));replace HB:=am (below_step qq197 hb);clear hb hbox hg) | ((with_reducible refine gate_dst (N:=8) rfl ?_);refine box_event ?hg (N:=8) ?hd (cs:=#[.int .i64 a3_0,.int .i64 a3_1]) (t:=37) ?hr ?_;(case hd => rfl);(case hg => rfl);(case hr => exact qq296);intro gb631 hg w9 hbox hb;have BK631:=am (hbox);have GW631:=am ((qq111 : w.heap.size ≤ gb631));have GE631:=am ((qq111 : w.heap.size ≤ gb631));replace HB:=am (below_step qq151 hb);have NB630_631:=am ((qq50 : gb630 ≠ gb631));have NB631_630:=am ((qq54 : gb631 ≠ gb630));replace BK630:=am (blk_below (g:=gb630) (o:=.cells #[.int .i64 a0_0,.int .i64 a0_1,.slice A0_2 l0_2.length c0_2] 51 (0,0)) qq207 hb);clear hb hbox hg) | ((with_reducible refine gate_dst (N:=9) rfl ?_);refine box_event ?hg (N:=9) ?hd (cs:=#[.int .i64 a4_0,.int .i64 a4_1,.slice A4_2 l4_2.length c4_2,.slice A4_3 l4_3.length c4_3]) (t:=27) ?hr ?_;(case hd => rfl);(case hg => rfl);(case hr => exact qq296);intro gb632 hg w10 hbox hb;have BK632:=am (hbox);have GW632:=am ((qq85 : w.heap.size ≤ gb632));have GE632:=am ((qq85 : w.heap.size ≤ gb632));replace HB:=am (below_step qq116 hb);have NB630_632:=am ((qq50 : gb630 ≠ gb632));have NB632_630:=am ((qq54 : gb632 ≠ gb630));replace BK630:=am (blk_below (g:=gb630) (o:=.cells #[.int .i64 a0_0,.int .i64 a0_1,.slice A0_2 l0_2.length c0_2] 51 (0,0)) qq207 hb);have NB631_632:=am ((by rw [hg];exact Nat.ne_of_lt (blk_lt (g:=gb631) (o:=.cells #[.int .i64 a3_0,.int .i64 a3_1] 37 (0,0)) qq206) : gb631 ≠ gb632));have NB632_631:=am ((by rw [hg];exact Nat.ne_of_gt (blk_lt (g:=gb631) (o:=.cells #[.int .i64 a3_0,.int .i64 a3_1] 37 (0,0)) qq206) : gb632 ≠ gb631));replace BK631:=am (blk_below (g:=gb631) (o:=.cells #[.int .i64 a3_0,.int .i64 a3_1] 37 (0,0)) qq206 hb);clear hb hbox hg;have hnb11:=NB630_631.out;have hnc11:=NB631_630.out;have hnb12:=NB630_632.out;have hnc12:=NB632_630.out;obtain ⟨hcz13_0,hcz13_1,hcz13_2,hfz13_0,hfz13_1,hfz13_2⟩:=bcl3 BK630.out) | ((with_reducible refine gate_callee (f:=47) rfl ?_);refine goesL_ (some 16) rfl rfl Try.func47 (by kernel_rfl) rfl #[.agg #[.int .i64 a0_0,.int .i64 a0_1,.slice A0_2 l0_2.length c0_2],.int .i64 a1,.slice A2 l2.length c2] rfl qq177 ?_;(with_reducible refine (impl_PlanDays.calls k a0_0 a0_1 _ _ l0_2 a1 _ _ l2 t633 _ ?side1 ?side2 ?side3 ?side4 A6.out).mono ?_);(case side1 => exact qq131);(case side2 => exact qq312);(case side3 => exact qq135);(case side4 => exact HC2.out);rintro e w14 ⟨rfl,hb⟩;refine ⟨_,rfl,?_⟩;replace BK630:=am (blk_below (g:=gb630) (o:=.cells #[.int .i64 a0_0,.int .i64 a0_1,.slice A0_2 l0_2.length c0_2] 51 (0,0)) qq207 hb);replace BK631:=am (blk_below (g:=gb631) (o:=.cells #[.int .i64 a3_0,.int .i64 a3_1] 37 (0,0)) qq206 hb);replace BK632:=am (blk_below (g:=gb632) (o:=.cells #[.int .i64 a4_0,.int .i64 a4_1,.slice A4_2 l4_2.length c4_2,.slice A4_3 l4_3.length c4_3] 27 (0,0)) qq205 hb);replace HB:=am (below_step qq88 hb);(try clear hb);(try clear hb2);(try clear hk);(try clear hi)))
 (try simp only [Act.put,sA,s0,s1])
 go_cut [24] (fun v24 wc => ∃ (kq : Nat) (x24_6 : Bool),v24 = .bool x24_6 ∧ Aside0 (impl_PlanFood.j0 kq t633 x24_6 a3_0 a3_1 a4_0 a4_1 l4_2 l4_3 = some r) ∧ Aside0 (kq ≤ k) ∧ Aside0 (wc.heap[gb630]? = some (.cells #[.int .i64 a0_0,.int .i64 a0_1,(.slice A0_2 l0_2.length c0_2)] 51 (0,0))) ∧ Aside0 (wc.heap[gb631]? = some (.cells #[.int .i64 a3_0,.int .i64 a3_1] 37 (0,0))) ∧ Aside0 (wc.heap[gb632]? = some (.cells #[.int .i64 a4_0,.int .i64 a4_1,(.slice A4_2 l4_2.length c4_2),(.slice A4_3 l4_3.length c4_3)] 27 (0,0))) ∧ Aside0 (Below w.heap.size w wc))
 case first =>
  have H:=HC7.out;clear HC7
  by_cases c15 : t633 < 0
  ·rw [if_pos c15] at H;have c15b0 : decide (t633 < 0) = true:=decide_eq_true c15;clear c15;(first | rw [c15b0] | (simp only [i64_w,i32_w];rw [c15b0]) | skip);have H':=am H;clear H;go_wp2
   go_meet
   case rel => exact ⟨_,(true),qq295,H',⟨qq298⟩,⟨qq207⟩,⟨qq206⟩,⟨qq205⟩,⟨qq88⟩⟩
  ·rw [if_neg c15] at H;have c15b0 : decide (t633 < 0) = false:=decide_eq_false c15;clear c15;(first | rw [c15b0] | (simp only [i64_w,i32_w];rw [c15b0]) | skip);replace H:=bS.mp H;obtain ⟨t634,A160,H⟩:=H;replace H : (impl_PlanFood.j0 k t633 (!t634) a3_0 a3_1 a4_0 a4_1 l4_2 l4_3) = some r:=H;have A16:=am A160;clear A160;have H':=am H;clear H;have hnb17:=NB632_630.out;have hnc17:=NB630_632.out;have hnb18:=NB632_631.out;have hnc18:=NB631_632.out;obtain ⟨hcz19_0,hcz19_1,hcz19_2,hcz19_3,hfz19_0,hfz19_1,hfz19_2,hfz19_3⟩:=bcl4 BK632.out;go_wp2_with (first | (go_at_call 75;(with_reducible refine (impl_AreCrew.calls k _ _ l4_2 t634 _ ?side1 ?side2 A16.out).mono ?_);(case side1 => exact qq130);(case side2 => exact HC4_2.out);rintro e w20 ⟨rfl,hb⟩;replace BK630:=am (blk_below (g:=gb630) (o:=.cells #[.int .i64 a0_0,.int .i64 a0_1,.slice A0_2 l0_2.length c0_2] 51 (0,0)) qq207 hb);replace BK631:=am (blk_below (g:=gb631) (o:=.cells #[.int .i64 a3_0,.int .i64 a3_1] 37 (0,0)) qq206 hb);replace BK632:=am (blk_below (g:=gb632) (o:=.cells #[.int .i64 a4_0,.int .i64 a4_1,.slice A4_2 l4_2.length c4_2,.slice A4_3 l4_3.length c4_3] 27 (0,0)) qq205 hb);replace HB:=am (below_step qq88 hb);(try clear hb);(try clear hb2);(try clear hk);(try clear hi)))
   go_meet
   case rel => exact ⟨_,(!t634),qq295,H',⟨qq298⟩,⟨qq207⟩,⟨qq206⟩,⟨qq205⟩,⟨qq88⟩⟩
 case rest =>
  clear HC7
  try clear c1
  try clear c2
  try clear p2
  try clear c4
  try clear c5
  try clear c11
  try clear c12
  try clear c15
  try clear c15b0
  try clear c17
  try clear c18
  try clear hcz13_0
  try clear hcz13_1
  try clear hcz13_2
  try clear hcz19_0
  try clear hcz19_1
  try clear hcz19_2
  try clear hcz19_3
  try clear hfz13_0
  try clear hfz13_1
  try clear hfz13_2
  try clear hfz19_0
  try clear hfz19_1
  try clear hfz19_2
  try clear hfz19_3
  obtain ⟨kq,x24_6,rfl,HA,HJ6,BK630,BK631,BK632,HB⟩:=hcut
  cases kq with
  | zero => exact absurd HA.out (by simp [impl_PlanFood.j0])
  | succ kj6 =>
   have H:=HA.out;clear HA;simp only [impl_PlanFood.j0] at H
   by_cases c21 : x24_6 = true
   ·subst c21;have H1 : (some (-1)) = some r:=by rw [if_pos rfl] at H;exact H
    clear H;have H:=H1;clear H1;obtain rfl:=Option.some.inj H;go_wp2
    go_ret
    exact ⟨qq246,qq88⟩
   ·replace c21:=Bool.eq_false_iff.mpr c21;subst c21;have H1 : ((impl_WorstDays.f kj6 a3_0 a3_1 l4_3 t633).bind fun t635 => (if t635 < 0 then (some (-1)) else ((impl_NeedOf.f kj6 l4_2).bind fun t636 => (some (wrap64 (t635 * t636)))))) = some r:=by rw [if_neg (show ¬ (false = true) by decide)] at H;exact H
    clear H;have H:=H1;clear H1;replace H:=bS.mp H;obtain ⟨t635,A220,H⟩:=H;replace H : (if t635 < 0 then (some (-1)) else ((impl_NeedOf.f kj6 l4_2).bind fun t636 => (some (wrap64 (t635 * t636))))) = some r:=H;have A22:=am A220;clear A220
    by_cases c23 : t635 < 0
    ·rw [if_pos c23] at H;have c23b0 : decide (t635 < 0) = true:=decide_eq_true c23;clear c23;obtain rfl:=Option.some.inj H;have hnb24:=NB631_630.out;have hnc24:=NB630_631.out;have hnb25:=NB631_632.out;have hnc25:=NB632_631.out;obtain ⟨hcz26_0,hcz26_1,hfz26_0,hfz26_1⟩:=bcl2 BK631.out;have hnb27:=NB632_630.out;have hnc27:=NB630_632.out;obtain ⟨hcz28_0,hcz28_1,hcz28_2,hcz28_3,hfz28_0,hfz28_1,hfz28_2,hfz28_3⟩:=bcl4 BK632.out;go_wp2_with (first | ((with_reducible refine gate_callee (f:=23) rfl ?_);refine goesL_ (some 29) rfl rfl Try.func23 (by kernel_rfl) rfl #[.agg #[.int .i64 a3_0,.int .i64 a3_1],.slice A4_3 l4_3.length c4_3,.int .i64 t633] rfl qq177 ?_;(with_reducible refine (impl_WorstDays.calls kj6 a3_0 a3_1 (fun k_ => k_ < w.heap.size) _ _ l4_3 t633 t635 _ ?side1 A22.out).mono ?_);(case side1 => exact qq33);rintro e w29 ⟨rfl,hb⟩;refine ⟨_,rfl,?_⟩;replace BK630:=am (blk_below (g:=gb630) (o:=.cells #[.int .i64 a0_0,.int .i64 a0_1,.slice A0_2 l0_2.length c0_2] 51 (0,0)) qq207 hb);replace BK631:=am (blk_below (g:=gb631) (o:=.cells #[.int .i64 a3_0,.int .i64 a3_1] 37 (0,0)) qq206 hb);replace BK632:=am (blk_below (g:=gb632) (o:=.cells #[.int .i64 a4_0,.int .i64 a4_1,.slice A4_2 l4_2.length c4_2,.slice A4_3 l4_3.length c4_3] 27 (0,0)) qq205 hb);replace HB:=am (below_step qq88 hb);(try clear hb);(try clear hb2);(try clear hk);(try clear hi)))
     go_ret
     exact ⟨qq246,qq88⟩
    ·rw [if_neg c23] at H;have c23b0 : decide (t635 < 0) = false:=decide_eq_false c23;clear c23;replace H:=bS.mp H;obtain ⟨t636,A300,H⟩:=H;replace H : (some (wrap64 (t635 * t636))) = some r:=H;have A30:=am A300;clear A300;obtain rfl:=Option.some.inj H;have hnb31:=NB631_630.out;have hnc31:=NB630_631.out;have hnb32:=NB631_632.out;have hnc32:=NB632_631.out;obtain ⟨hcz33_0,hcz33_1,hfz33_0,hfz33_1⟩:=bcl2 BK631.out;have hnb34:=NB632_630.out;have hnc34:=NB630_632.out;obtain ⟨hcz35_0,hcz35_1,hcz35_2,hcz35_3,hfz35_0,hfz35_1,hfz35_2,hfz35_3⟩:=bcl4 BK632.out;go_wp2_with (first | ((with_reducible refine gate_callee (f:=23) rfl ?_);refine goesL_ (some 29) rfl rfl Try.func23 (by kernel_rfl) rfl #[.agg #[.int .i64 a3_0,.int .i64 a3_1],.slice A4_3 l4_3.length c4_3,.int .i64 t633] rfl qq177 ?_;(with_reducible refine (impl_WorstDays.calls kj6 a3_0 a3_1 (fun k_ => k_ < w.heap.size) _ _ l4_3 t633 t635 _ ?side1 A22.out).mono ?_);(case side1 => exact qq33);rintro e w36 ⟨rfl,hb⟩;refine ⟨_,rfl,?_⟩;replace BK630:=am (blk_below (g:=gb630) (o:=.cells #[.int .i64 a0_0,.int .i64 a0_1,.slice A0_2 l0_2.length c0_2] 51 (0,0)) qq207 hb);replace BK631:=am (blk_below (g:=gb631) (o:=.cells #[.int .i64 a3_0,.int .i64 a3_1] 37 (0,0)) qq206 hb);replace BK632:=am (blk_below (g:=gb632) (o:=.cells #[.int .i64 a4_0,.int .i64 a4_1,.slice A4_2 l4_2.length c4_2,.slice A4_3 l4_3.length c4_3] 27 (0,0)) qq205 hb);replace HB:=am (below_step qq88 hb);(try clear hb);(try clear hb2);(try clear hk);(try clear hi);obtain ⟨hcz37_0,hcz37_1,hcz37_2,hcz37_3,hfz37_0,hfz37_1,hfz37_2,hfz37_3⟩:=bcl4 BK632.out) | ((with_reducible refine gate_callee (f:=19) rfl ?_);refine goesL_ (some 35) rfl rfl Try.func19 (by kernel_rfl) rfl #[.slice A4_2 l4_2.length c4_2] rfl qq177 ?_;(with_reducible refine (impl_NeedOf.calls kj6 _ _ l4_2 t636 _ ?side1 ?side2 A30.out).mono ?_);(case side1 => exact qq130);(case side2 => exact HC4_2.out);rintro e w38 ⟨rfl,hb⟩;refine ⟨_,rfl,?_⟩;replace BK630:=am (blk_below (g:=gb630) (o:=.cells #[.int .i64 a0_0,.int .i64 a0_1,.slice A0_2 l0_2.length c0_2] 51 (0,0)) qq207 hb);replace BK631:=am (blk_below (g:=gb631) (o:=.cells #[.int .i64 a3_0,.int .i64 a3_1] 37 (0,0)) qq206 hb);replace BK632:=am (blk_below (g:=gb632) (o:=.cells #[.int .i64 a4_0,.int .i64 a4_1,.slice A4_2 l4_2.length c4_2,.slice A4_3 l4_3.length c4_3] 27 (0,0)) qq205 hb);replace HB:=am (below_step qq88 hb);(try clear hb);(try clear hb2);(try clear hk);(try clear hi)))
     go_ret
     exact ⟨qq246,qq88⟩

end Go.Proofs.Ytcbkknpmeknppaa.PFnPlans
