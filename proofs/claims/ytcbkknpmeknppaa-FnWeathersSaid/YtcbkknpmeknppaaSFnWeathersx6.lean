/- Contracts of functions that the law FnWeathers reaches, for its row: lines that the kit's printer wrote for this claim, set shorter by a program of this session (own.py), and what fell in Lean proved anew. Lean checks them. -/
import Derived.Test.YtcbkknpmeknppaaSFnWeathersx0
import Derived.Test.YtcbkknpmeknppaaSFnWeathersx5
namespace Go.Proofs.Ytcbkknpmeknppaa.PFnWeathers
open Go.RowKit Go.Proofs.YtcbkknpmeknppaaW.PrintWords Go.Proofs.YtcbkknpmeknppaaW.PrintLast Go.Proofs.YtcbkknpmeknppaaW.PrintMore
attribute [local go_sem] max2_int min2_int max_two min_two max_three min_three max_four min_four   -- for this text's walks alone
set_option linter.unusedVariables false
set_option linter.unusedSimpArgs false

/-! ### impl_MayStorm: function 83 -/
def impl_MayStorm.f (k : Nat) (a0_0 : Int) (a0_1 : Int) (l1 : List Bool) : Option (Bool) := (impl_IsRule.f a0_0 a0_1).bind fun t221 => (if t221 = true then ((impl_last.f l1 (wrap64 (a0_1 - 1))).bind fun t222 => ((impl_CountStorms.f k t222).bind fun t225 => (some (decide (t225 < a0_0))))) else (some false))
def impl_MayStorm.T1 : Bool × List (List Nat × List Nat) := (true, [([], []), ([0], [0]), ([1, 1], [1]), ([2], [2]), ([2], [2]), ([4, 2], [2, 4]), ([5, 2], [2, 5]), ([3, 6, 2, 2], [2, 3, 6]), ([7, 7, 2], [2, 7]), ([2], [2]), ([9, 2], [2, 9]), ([8, 10, 2], [2, 8, 10]), ([2, 11], [2, 11]), ([12, 8, 0, 1, 2, 3, 4, 5, 6, 7, 8, 9, 10, 11, 12], [12])])
def impl_MayStorm.B1 : List Nat := [0, 1, 3, 7, 7, 23, 55, 127, 255, 7, 519, 2047, 4095, 8191]
theorem impl_MayStorm.tab1 : rtab .any (opsOf Try.f83 1) = impl_MayStorm.T1 := by kernel_rfl
theorem impl_MayStorm.bits1 : waitsOk impl_MayStorm.T1.2 impl_MayStorm.B1 = true := by kernel_rfl
set_option maxHeartbeats 8000000 in
set_option maxRecDepth 100000 in
theorem impl_MayStorm.calls (k : Nat) (a0_0 : Int) (a0_1 : Int) (A1 : Option Addr) (c1 : Nat) (l1 : List Bool) (r : Bool) (w : World) (hr1 : Kd.C Kd.bool w A1 l1.length l1) (hc1 : l1.length ≤ c1) (h : impl_MayStorm.f k a0_0 a0_1 l1 = some r) :
  Calls Try.prog 83 #[.agg #[.int .i64 a0_0,.int .i64 a0_1],.slice A1 l1.length c1] w fun e w' => e = .returned (.bool r) ∧ Below w.heap.size w w':=by
 have hu37:=Try.underlying37;have HR1:=am hr1;have HC1:=am hc1;clear hr1 hc1;have HB:=am (Below.refl w.heap.size w);have H : ((impl_IsRule.f a0_0 a0_1).bind fun t221 => (if t221 = true then ((impl_last.f l1 (wrap64 (a0_1 - 1))).bind fun t222 => ((impl_CountStorms.f k t222).bind fun t225 => (some (decide (t225 < a0_0))))) else (some false))) = some r:=h;clear h;replace H:=bS.mp H;obtain ⟨t221,A30,H⟩:=H;replace H : (if t221 = true then ((impl_last.f l1 (wrap64 (a0_1 - 1))).bind fun t222 => ((impl_CountStorms.f k t222).bind fun t225 => (some (decide (t225 < a0_0))))) else (some false)) = some r:=H;have A3:=am A30;clear A30
 by_cases c4 : t221 = true
 ·subst c4;have H1 : ((impl_last.f l1 (wrap64 (a0_1 - 1))).bind fun t222 => ((impl_CountStorms.f k t222).bind fun t225 => (some (decide (t225 < a0_0))))) = some r:=by rw [if_pos rfl] at H;exact H
  clear H;have H:=H1;clear H1;replace H:=bS.mp H;obtain ⟨t222,A50,H⟩:=H;replace H : ((impl_CountStorms.f k t222).bind fun t225 => (some (decide (t225 < a0_0)))) = some r:=H;have A5:=am A50;clear A50;replace H:=bS.mp H;obtain ⟨t225,A60,H⟩:=H;replace H : (some (decide (t225 < a0_0))) = some r:=H;have A6:=am A60;clear A60;obtain rfl:=Option.some.inj H
  go_enter Try.func83,Try.ntmps83
  try go_wp2_with (first | ((with_reducible refine gate_dst (N:=2) rfl ?_);refine box_event ?hg (N:=2) ?hd (cs:=#[.int .i64 a0_0,.int .i64 a0_1]) (t:=37) ?hr ?_;(case hd => rfl);(case hg => rfl);(case hr => exact qq299);intro gb220 hg w7 hbox hb;have BK220:=am (hbox);have GW220:=am ((qq153 : w.heap.size ≤ gb220));have GE220:=am ((qq153 : w.heap.size ≤ gb220));replace HB:=am (below_step qq189 hb);clear hb hbox hg))
  replace BK220:=am (blk_drew BK220.out);replace HB:=am (below_drew1 HB.out);refine start_ (n:=14) (S:=fun w' => w'.cell? ⟨gb220,0,none⟩ = some (.int .i64 a0_0) ∧ w'.cell? ⟨gb220,1,none⟩ = some (.int .i64 a0_1)) (ds:=[]) #[Z,Z,Z,Z,Z,Z,Z,Z,Z,Z,Z,Z,Z,Z] (by kernel_rfl) rfl rfl ⟨(blk_cell BK220.out 0).trans rfl,(blk_cell BK220.out 1).trans rfl⟩ (fun hHeld => ?_);refine with_tabW impl_MayStorm.tab1 impl_MayStorm.bits1 (fun HT_ HW_ => ?_)
  generalize w7.drew = w8 at BK220 HB hHeld ⊢
  refine tV2 (i:=0) (N:=some 5) #[Y,Z,Z,Z,Z,Z,Z,Z,Z,Z,Z,Z,Z,Z] rfl rfl (take_ofW HT_.out HW_.out (by kernel_rfl)) hHeld ?_
  refine one_ (i:=1) (N:=some 6) #[Y,Y,Z,Z,Z,Z,Z,Z,Z,Z,Z,Z,Z,Z] rfl rfl (one_of HT_.out (by kernel_rfl)) (by decide) (fun K hK => ?_);refine goes_ Try.func26 (by kernel_rfl) rfl #[.agg #[.int .i64 a0_0,.int .i64 a0_1]] (by rfl) rfl rfl qq177 ?_;with_reducible refine (impl_IsRule.calls a0_0 a0_1 true _ A3.out).mono ?_
  rintro e w9 ⟨rfl,hb⟩
  refine ⟨_,rfl,?_⟩;replace BK220:=am (blk_below (g:=gb220) (o:=.cells #[.int .i64 a0_0,.int .i64 a0_1] 37 (0,0)) qq236 hb);replace HB:=am (below_step qq172 hb);(try clear hb);(try clear hb2);(try clear hk);(try clear hi);refine hK.out _ _ ⟨(blk_cell BK220.out 0).trans rfl,(blk_cell BK220.out 1).trans rfl⟩ (fun hHeld => ?_);clear hK K;refine norm_ (a':=?_) ?_ ?_;rotate_left
  ·show Act.put _ (some 6) _ = _
   simp only [Act.put,sA,s0,s1,i64_w,i32_w];rfl
  refine pV (i:=2) (N:=some 7) #[Y,Y,Y,Z,Z,Z,Z,Z,Z,Z,Z,Z,Z,Z] rfl rfl qT ?_
  refine pV (i:=3) (N:=some 8) #[Y,Y,Y,Y,Z,Z,Z,Z,Z,Z,Z,Z,Z,Z] rfl rfl qT ?_
  refine pV (i:=4) (N:=some 9) #[Y,Y,Y,Y,Y,Z,Z,Z,Z,Z,Z,Z,Z,Z] rfl rfl qT ?_
  refine pV (i:=9) (N:=some 14) #[Y,Y,Y,Y,Y,Z,Z,Z,Z,Y,Z,Z,Z,Z] rfl rfl qT ?_
  refine tV2 (i:=5) (N:=some 10) #[Y,Y,Y,Y,Y,Y,Z,Z,Z,Y,Z,Z,Z,Z] rfl rfl (take_ofW HT_.out HW_.out (by kernel_rfl)) hHeld ?_
  refine pV (i:=6) (N:=some 11) #[Y,Y,Y,Y,Y,Y,Y,Z,Z,Y,Z,Z,Z,Z] rfl rfl qT ?_
  refine tV2 (i:=10) (N:=some 15) #[Y,Y,Y,Y,Y,Y,Y,Z,Z,Y,Y,Z,Z,Z] rfl rfl (take_ofW HT_.out HW_.out (by kernel_rfl)) hHeld ?_
  refine one_ (i:=7) (N:=some 12) #[Y,Y,Y,Y,Y,Y,Y,Y,Z,Y,Y,Z,Z,Z] rfl rfl (one_of HT_.out (by kernel_rfl)) (by decide) (fun K hK => ?_);refine goes_ Try.func123 (by kernel_rfl) rfl #[.slice A1 l1.length c1,.int .i64 (wrap64 (a0_1 - 1))] (by rfl) rfl rfl qq177 ?_;with_reducible refine (impl_last.calls (fun k_ => k_ < w.heap.size) _ _ l1 (wrap64 (a0_1 - 1)) t222 _ ?side1 A5.out).mono ?_
  (case side1 => exact Kd.V_mk HC1.out (Kd.F_below (Kd.C_F Kd.heap_bool HR1.out) qq172))
  rintro e w10 ⟨v223,rfl,ho0,hb⟩
  refine ⟨_,rfl,?_⟩;have HO224:=am (Kd.V_lower (Kd.V_mono (ok':=fun k_ => k_ ≠ gb220) ho0 (fun k_ hk_ => Or.elim hk_ (fun hs_ => fun e_ => Nat.not_le.2 hs_ (by rw [e_];exact GW220.out)) (fun hn_ => (Kd.freshB (g:=gb220) (o:=.cells #[.int .i64 a0_0,.int .i64 a0_1] 37 (0,0)) qq236 k_ hn_)))) (below_size qq172));replace BK220:=am (blk_below (g:=gb220) (o:=.cells #[.int .i64 a0_0,.int .i64 a0_1] 37 (0,0)) qq236 hb);replace HB:=am (below_step qq172 hb);(try clear hb);(try clear hb2);(try clear hk);(try clear hi);(try clear ho0);obtain ⟨Ao11,co11,eo11⟩:=Kd.V_slice HO224.out;(first | subst eo11 | (injection eo11 with f1_ f2_ f3_;have f4_:=f1_.symm;have f5_:=f3_.symm;clear f1_ f2_ f3_;subst f4_;subst f5_));refine hK.out _ _ ⟨(blk_cell BK220.out 0).trans rfl,(blk_cell BK220.out 1).trans rfl⟩ (fun hHeld => ?_);clear hK K;refine norm_ (a':=?_) ?_ ?_;rotate_left
  ·show Act.put _ (some 12) _ = _
   simp only [Act.put,sA,s0,s1,i64_w,i32_w];rfl
  refine one_ (i:=8) (N:=some 13) #[Y,Y,Y,Y,Y,Y,Y,Y,Y,Y,Y,Z,Z,Z] rfl rfl (one_of HT_.out (by kernel_rfl)) (by decide) (fun K hK => ?_);refine goes_ Try.func124 (by kernel_rfl) rfl #[.slice Ao11 t222.length co11] (by rfl) rfl rfl qq177 ?_;with_reducible refine (impl_CountStorms.calls k _ _ t222 t225 _ ?side1 ?side2 A6.out).mono ?_
  (case side1 => repeat (first | exact (Kd.V_reads' HO224.out).2.2 | (with_reducible refine cA ?_ _) | (with_reducible refine cN ?_ _) | (with_reducible refine cD ?_)));(case side2 => exact (Kd.V_reads' HO224.out).2.1)
  rintro e w' ⟨rfl,⟨nd,rfl⟩⟩
  refine ⟨_,rfl,?_⟩;refine hK.out _ _ ⟨(blk_cell BK220.out 0).trans rfl,(blk_cell BK220.out 1).trans rfl⟩ (fun hHeld => ?_);clear hK K;refine norm_ (a':=?_) ?_ ?_;rotate_left
  ·show Act.put _ (some 13) _ = _
   simp only [Act.put,sA,s0,s1,i64_w,i32_w];rfl
  refine pV (i:=11) (N:=some 16) #[Y,Y,Y,Y,Y,Y,Y,Y,Y,Y,Y,Y,Z,Z] rfl rfl qT ?_
  refine pV (i:=12) (N:=some 17) #[Y,Y,Y,Y,Y,Y,Y,Y,Y,Y,Y,Y,Y,Z] rfl rfl qT ?_
  refine pV (i:=13) (N:=some 4) #[Y,Y,Y,Y,Y,Y,Y,Y,Y,Y,Y,Y,Y,Y] rfl rfl qT ?_
  refine done_ (done_of HT_.out (by kernel_rfl)) ?_
  try go_wp2
  go_ret
  exact ⟨qq244,qq172⟩
 ·replace c4:=Bool.eq_false_iff.mpr c4;subst c4;have H1 : (some false) = some r:=by rw [if_neg (show ¬ (false = true) by decide)] at H;exact H
  clear H;have H:=H1;clear H1;obtain rfl:=Option.some.inj H
  go_enter Try.func83,Try.ntmps83
  try go_wp2_with (first | ((with_reducible refine gate_dst (N:=2) rfl ?_);refine box_event ?hg (N:=2) ?hd (cs:=#[.int .i64 a0_0,.int .i64 a0_1]) (t:=37) ?hr ?_;(case hd => rfl);(case hg => rfl);(case hr => exact qq299);intro gb220 hg w12 hbox hb;have BK220:=am (hbox);have GW220:=am ((qq153 : w.heap.size ≤ gb220));have GE220:=am ((qq153 : w.heap.size ≤ gb220));replace HB:=am (below_step qq189 hb);clear hb hbox hg))
  replace BK220:=am (blk_drew BK220.out);replace HB:=am (below_drew1 HB.out);refine start_ (n:=14) (S:=fun w' => w'.cell? ⟨gb220,0,none⟩ = some (.int .i64 a0_0) ∧ w'.cell? ⟨gb220,1,none⟩ = some (.int .i64 a0_1)) (ds:=[]) #[Z,Z,Z,Z,Z,Z,Z,Z,Z,Z,Z,Z,Z,Z] (by kernel_rfl) rfl rfl ⟨(blk_cell BK220.out 0).trans rfl,(blk_cell BK220.out 1).trans rfl⟩ (fun hHeld => ?_);refine with_tabW impl_MayStorm.tab1 impl_MayStorm.bits1 (fun HT_ HW_ => ?_)
  generalize w12.drew = w13 at BK220 HB hHeld ⊢
  refine tV2 (i:=0) (N:=some 5) #[Y,Z,Z,Z,Z,Z,Z,Z,Z,Z,Z,Z,Z,Z] rfl rfl (take_ofW HT_.out HW_.out (by kernel_rfl)) hHeld ?_
  refine one_ (i:=1) (N:=some 6) #[Y,Y,Z,Z,Z,Z,Z,Z,Z,Z,Z,Z,Z,Z] rfl rfl (one_of HT_.out (by kernel_rfl)) (by decide) (fun K hK => ?_);refine goes_ Try.func26 (by kernel_rfl) rfl #[.agg #[.int .i64 a0_0,.int .i64 a0_1]] (by rfl) rfl rfl qq177 ?_;with_reducible refine (impl_IsRule.calls a0_0 a0_1 false _ A3.out).mono ?_
  rintro e w14 ⟨rfl,hb⟩
  refine ⟨_,rfl,?_⟩;replace BK220:=am (blk_below (g:=gb220) (o:=.cells #[.int .i64 a0_0,.int .i64 a0_1] 37 (0,0)) qq236 hb);replace HB:=am (below_step qq172 hb);(try clear hb);(try clear hb2);(try clear hk);(try clear hi);refine hK.out _ _ ⟨(blk_cell BK220.out 0).trans rfl,(blk_cell BK220.out 1).trans rfl⟩ (fun hHeld => ?_);clear hK K;refine norm_ (a':=?_) ?_ ?_;rotate_left
  ·show Act.put _ (some 6) _ = _
   simp only [Act.put,sA,s0,s1,i64_w,i32_w];rfl
  refine pV (i:=2) (N:=some 7) #[Y,Y,Y,Z,Z,Z,Z,Z,Z,Z,Z,Z,Z,Z] rfl rfl qT ?_
  refine pW (i:=3) (N:=some 8) #[Y,Y,Y,Y,Z,Z,Z,Z,Z,Z,Z,Z,Z,Z] rfl rfl qT ?_
  refine pW (i:=4) (N:=some 9) #[Y,Y,Y,Y,Y,Z,Z,Z,Z,Z,Z,Z,Z,Z] rfl rfl qT ?_
  refine pW (i:=5) (N:=some 10) #[Y,Y,Y,Y,Y,Y,Z,Z,Z,Z,Z,Z,Z,Z] rfl rfl qT ?_
  refine pW (i:=6) (N:=some 11) #[Y,Y,Y,Y,Y,Y,Y,Z,Z,Z,Z,Z,Z,Z] rfl rfl qT ?_
  refine pW (i:=7) (N:=some 12) #[Y,Y,Y,Y,Y,Y,Y,Y,Z,Z,Z,Z,Z,Z] rfl rfl qT ?_
  refine pW (i:=8) (N:=some 13) #[Y,Y,Y,Y,Y,Y,Y,Y,Y,Z,Z,Z,Z,Z] rfl rfl qT ?_
  refine pW (i:=9) (N:=some 14) #[Y,Y,Y,Y,Y,Y,Y,Y,Y,Y,Z,Z,Z,Z] rfl rfl qT ?_
  refine pW (i:=10) (N:=some 15) #[Y,Y,Y,Y,Y,Y,Y,Y,Y,Y,Y,Z,Z,Z] rfl rfl qT ?_
  refine pW (i:=11) (N:=some 16) #[Y,Y,Y,Y,Y,Y,Y,Y,Y,Y,Y,Y,Z,Z] rfl rfl qT ?_
  refine pV (i:=12) (N:=some 17) #[Y,Y,Y,Y,Y,Y,Y,Y,Y,Y,Y,Y,Y,Z] rfl rfl qT ?_
  refine pV (i:=13) (N:=some 4) #[Y,Y,Y,Y,Y,Y,Y,Y,Y,Y,Y,Y,Y,Y] rfl rfl qT ?_
  refine done_ (done_of HT_.out (by kernel_rfl)) ?_
  try go_wp2
  go_ret
  exact ⟨qq244,qq172⟩

end Go.Proofs.Ytcbkknpmeknppaa.PFnWeathers
