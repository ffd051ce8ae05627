/- Contracts of functions that the law FnWeathers reaches, for its row: lines that the kit's printer wrote for this claim, set shorter by a program of this session (own.py), and what fell in Lean proved anew. Lean checks them. -/
import Derived.Test.YtcbkknpmeknppaaSFnWeathersx0
import Derived.Test.YtcbkknpmeknppaaSFnWeathersx3
namespace Go.Proofs.Ytcbkknpmeknppaa.PFnWeathers
open Go.RowKit Go.Proofs.YtcbkknpmeknppaaW.PrintWords Go.Proofs.YtcbkknpmeknppaaW.PrintLast Go.Proofs.YtcbkknpmeknppaaW.PrintMore
attribute [local go_sem] max2_int min2_int max_two min_two max_three min_three max_four min_four   -- for this text's walks alone
set_option linter.unusedVariables false
set_option linter.unusedSimpArgs false

/-! ### spec_MayStorm: function 122 -/
def spec_MayStorm.f (k : Nat) (a0_0 : Int) (a0_1 : Int) (l1 : List Bool) : Option (Bool) := (spec_IsRule.f a0_0 a0_1).bind fun t148 => (if t148 = true then ((spec_Max.f 0 (wrap64 ((wrap64 ((l1.length : Int) + 1)) - a0_1))).bind fun t149 => (if 0 ≤ t149 then (if t149 ≤ (l1.length : Int) then ((spec_CountStorms.f k (l1.drop (t149 : Int).toNat)).bind fun t151 => (some (decide (t151 < a0_0)))) else (none)) else (none))) else (some false))
def spec_MayStorm.T1 : Bool × List (List Nat × List Nat) := (true, [([], []), ([0], [0]), ([1, 1], [1]), ([2], [2]), ([2], [2]), ([4, 2], [2, 4]), ([5, 2], [2, 5]), ([2], [2]), ([7, 2], [2, 7]), ([6, 8, 2], [2, 6, 8]), ([9, 2, 2], [2, 9]), ([3, 10, 2], [2, 3, 10]), ([11, 10, 2], [2, 11]), ([2], [2]), ([13, 2], [2, 13]), ([12, 14, 2], [2, 12, 14]), ([2, 15], [2, 15]), ([16, 12, 0, 1, 2, 3, 4, 5, 6, 7, 8, 9, 10, 11, 12, 13, 14, 15, 16], [16])])
def spec_MayStorm.B1 : List Nat := [0, 1, 3, 7, 7, 23, 55, 7, 135, 503, 1015, 2047, 4095, 7, 8199, 32767, 65535, 131071]
theorem spec_MayStorm.tab1 : rtab .any (opsOf Try.f122 1) = spec_MayStorm.T1 := by kernel_rfl
theorem spec_MayStorm.bits1 : waitsOk spec_MayStorm.T1.2 spec_MayStorm.B1 = true := by kernel_rfl
set_option maxHeartbeats 8000000 in
set_option maxRecDepth 100000 in
theorem spec_MayStorm.calls (k : Nat) (a0_0 : Int) (a0_1 : Int) (A1 : Option Addr) (c1 : Nat) (l1 : List Bool) (r : Bool) (w : World) (hr1 : Kd.C Kd.bool w A1 l1.length l1) (hc1 : l1.length ≤ c1) (h : spec_MayStorm.f k a0_0 a0_1 l1 = some r) :
  Calls Try.prog 122 #[.agg #[.int .i64 a0_0,.int .i64 a0_1],.slice A1 l1.length c1] w fun e w' => e = .returned (.bool r) ∧ Below w.heap.size w w':=by
 have hu37:=Try.underlying37;have HR1:=am hr1;have HC1:=am hc1;clear hr1 hc1;have HB:=am (Below.refl w.heap.size w);have H : ((spec_IsRule.f a0_0 a0_1).bind fun t148 => (if t148 = true then ((spec_Max.f 0 (wrap64 ((wrap64 ((l1.length : Int) + 1)) - a0_1))).bind fun t149 => (if 0 ≤ t149 then (if t149 ≤ (l1.length : Int) then ((spec_CountStorms.f k (l1.drop (t149 : Int).toNat)).bind fun t151 => (some (decide (t151 < a0_0)))) else (none)) else (none))) else (some false))) = some r:=h;clear h;replace H:=bS.mp H;obtain ⟨t148,A30,H⟩:=H;replace H : (if t148 = true then ((spec_Max.f 0 (wrap64 ((wrap64 ((l1.length : Int) + 1)) - a0_1))).bind fun t149 => (if 0 ≤ t149 then (if t149 ≤ (l1.length : Int) then ((spec_CountStorms.f k (l1.drop (t149 : Int).toNat)).bind fun t151 => (some (decide (t151 < a0_0)))) else (none)) else (none))) else (some false)) = some r:=H;have A3:=am A30;clear A30
 by_cases c4 : t148 = true
 ·subst c4;have H1 : ((spec_Max.f 0 (wrap64 ((wrap64 ((l1.length : Int) + 1)) - a0_1))).bind fun t149 => (if 0 ≤ t149 then (if t149 ≤ (l1.length : Int) then ((spec_CountStorms.f k (l1.drop (t149 : Int).toNat)).bind fun t151 => (some (decide (t151 < a0_0)))) else (none)) else (none))) = some r:=by rw [if_pos rfl] at H;exact H
  clear H;have H:=H1;clear H1;replace H:=bS.mp H;obtain ⟨t149,A50,H⟩:=H;replace H : (if 0 ≤ t149 then (if t149 ≤ (l1.length : Int) then ((spec_CountStorms.f k (l1.drop (t149 : Int).toNat)).bind fun t151 => (some (decide (t151 < a0_0)))) else (none)) else (none)) = some r:=H;have A5:=am A50;clear A50
  by_cases c6 : 0 ≤ t149
  ·rw [if_pos c6] at H;have c6b0:=eq_true c6;have c6b1 : decide (0 ≤ t149) = true:=decide_eq_true c6;clear c6
   by_cases c7 : t149 ≤ (l1.length : Int)
   ·rw [if_pos c7] at H;have c7b0:=eq_true c7;have c7b1 : decide (t149 ≤ (l1.length : Int)) = true:=decide_eq_true c7;clear c7;replace H:=bS.mp H;obtain ⟨t151,A80,H⟩:=H;replace H : (some (decide (t151 < a0_0))) = some r:=H;have A8:=am A80;clear A80;obtain rfl:=Option.some.inj H
    go_enter Try.func122,Try.ntmps122
    try go_wp2_with (first | ((with_reducible refine gate_dst (N:=2) rfl ?_);(try (refine gate_guard (by rfl) ?_;dsimp only));refine box_event ?hg (N:=2) ?hd (cs:=#[.int .i64 a0_0,.int .i64 a0_1]) (t:=37) ?hr ?_;(case hd => rfl);(case hg => rfl);(case hr => exact qq299);intro gb147 hg w9 hbox hb;have BK147:=am (hbox);have GW147:=am ((qq153 : w.heap.size ≤ gb147));have GE147:=am ((qq153 : w.heap.size ≤ gb147));replace HB:=am (below_step qq189 hb);clear hb hbox hg))
    replace BK147:=am (blk_drew BK147.out);replace HB:=am (below_drew1 HB.out);refine start_ (n:=18) (S:=fun w' => w'.cell? ⟨gb147,0,none⟩ = some (.int .i64 a0_0) ∧ w'.cell? ⟨gb147,1,none⟩ = some (.int .i64 a0_1)) (ds:=[]) #[Z,Z,Z,Z,Z,Z,Z,Z,Z,Z,Z,Z,Z,Z,Z,Z,Z,Z] (by kernel_rfl) rfl rfl ⟨(blk_cell BK147.out 0).trans rfl,(blk_cell BK147.out 1).trans rfl⟩ (fun hHeld => ?_);refine with_tabW spec_MayStorm.tab1 spec_MayStorm.bits1 (fun HT_ HW_ => ?_)
    generalize w9.drew = w10 at BK147 HB hHeld ⊢
    refine tV2 (i:=0) (N:=some 5) #[Y,Z,Z,Z,Z,Z,Z,Z,Z,Z,Z,Z,Z,Z,Z,Z,Z,Z] rfl rfl (take_ofW HT_.out HW_.out (by kernel_rfl)) hHeld ?_
    refine one_ (i:=1) (N:=some 6) #[Y,Y,Z,Z,Z,Z,Z,Z,Z,Z,Z,Z,Z,Z,Z,Z,Z,Z] rfl rfl (one_of HT_.out (by kernel_rfl)) (by decide) (fun K hK => ?_);refine goes_ Try.func139 (by kernel_rfl) rfl #[.agg #[.int .i64 a0_0,.int .i64 a0_1]] (by rfl) rfl rfl qq177 ?_;with_reducible refine (spec_IsRule.calls a0_0 a0_1 true _ A3.out).mono ?_
    rintro e w11 ⟨rfl,hb⟩
    refine ⟨_,rfl,?_⟩;replace BK147:=am (blk_below (g:=gb147) (o:=.cells #[.int .i64 a0_0,.int .i64 a0_1] 37 (0,0)) qq240 hb);replace HB:=am (below_step qq174 hb);(try clear hb);(try clear hb2);(try clear hk);(try clear hi);refine hK.out _ _ ⟨(blk_cell BK147.out 0).trans rfl,(blk_cell BK147.out 1).trans rfl⟩ (fun hHeld => ?_);clear hK K;refine norm_ (a':=?_) ?_ ?_;rotate_left
    ·show Act.put _ (some 6) _ = _
     simp only [Act.put,sA,s0,s1,i64_w,i32_w];rfl
    refine pV (i:=2) (N:=some 7) #[Y,Y,Y,Z,Z,Z,Z,Z,Z,Z,Z,Z,Z,Z,Z,Z,Z,Z] rfl rfl qT ?_
    refine pV (i:=3) (N:=some 8) #[Y,Y,Y,Y,Z,Z,Z,Z,Z,Z,Z,Z,Z,Z,Z,Z,Z,Z] rfl rfl qT ?_
    refine pV (i:=4) (N:=some 9) #[Y,Y,Y,Y,Y,Z,Z,Z,Z,Z,Z,Z,Z,Z,Z,Z,Z,Z] rfl rfl qT ?_
    refine pV (i:=5) (N:=some 10) #[Y,Y,Y,Y,Y,Y,Z,Z,Z,Z,Z,Z,Z,Z,Z,Z,Z,Z] rfl rfl qT ?_
    refine pV (i:=6) (N:=some 11) #[Y,Y,Y,Y,Y,Y,Y,Z,Z,Z,Z,Z,Z,Z,Z,Z,Z,Z] rfl rfl qT ?_
    refine pV (i:=7) (N:=some 12) #[Y,Y,Y,Y,Y,Y,Y,Y,Z,Z,Z,Z,Z,Z,Z,Z,Z,Z] rfl rfl qT ?_
    refine pV (i:=13) (N:=some 18) #[Y,Y,Y,Y,Y,Y,Y,Y,Z,Z,Z,Z,Z,Y,Z,Z,Z,Z] rfl rfl qT ?_
    refine tV2 (i:=8) (N:=some 13) #[Y,Y,Y,Y,Y,Y,Y,Y,Y,Z,Z,Z,Z,Y,Z,Z,Z,Z] rfl rfl (take_ofW HT_.out HW_.out (by kernel_rfl)) hHeld ?_
    refine pV (i:=9) (N:=some 14) #[Y,Y,Y,Y,Y,Y,Y,Y,Y,Y,Z,Z,Z,Y,Z,Z,Z,Z] rfl rfl qT ?_
    refine tV2 (i:=14) (N:=some 19) #[Y,Y,Y,Y,Y,Y,Y,Y,Y,Y,Z,Z,Z,Y,Y,Z,Z,Z] rfl rfl (take_ofW HT_.out HW_.out (by kernel_rfl)) hHeld ?_
    refine one_ (i:=10) (N:=some 15) #[Y,Y,Y,Y,Y,Y,Y,Y,Y,Y,Y,Z,Z,Y,Y,Z,Z,Z] rfl rfl (one_of HT_.out (by kernel_rfl)) (by decide) (fun K hK => ?_);refine goes_ Try.func144 (by kernel_rfl) rfl #[.int .i64 0,.int .i64 (wrap64 ((wrap64 ((l1.length : Int) + 1)) - a0_1))] (by rfl) rfl rfl qq177 ?_;with_reducible refine (spec_Max.calls 0 (wrap64 ((wrap64 ((l1.length : Int) + 1)) - a0_1)) t149 _ A5.out).mono ?_
    rintro e w' ⟨rfl,⟨nd,rfl⟩⟩
    refine ⟨_,rfl,?_⟩;obtain ⟨i012,hi012,_,hsz12,_⟩:=info_parts info4;obtain ⟨A12,hcut12,hA12,hC12⟩:=print_drop_of (P:=Try.prog) Value.bool false 25 4 .i64 Try.underlying25 hi012 hsz12 A1 c1 l1 t149 (odt qq296) (odt qq296) HC1.out;have HR150:=am (Kd.C_of_reads (h1:=fun _ => rfl) (hA12 _ (Kd.reads_of_C HR1.out)));have HC150:=am hC12;clear hA12 hC12 hi012 hsz12;refine hK.out _ _ ⟨(blk_cell BK147.out 0).trans rfl,(blk_cell BK147.out 1).trans rfl⟩ (fun hHeld => ?_);clear hK K;refine norm_ (a':=?_) ?_ ?_;rotate_left
    ·show Act.put _ (some 15) _ = _
     simp only [Act.put,sA,s0,s1,i64_w,i32_w];rfl
    refine pV (i:=11) (N:=some 16) #[Y,Y,Y,Y,Y,Y,Y,Y,Y,Y,Y,Y,Z,Y,Y,Z,Z,Z] rfl rfl qT ?_
    refine one_ (i:=12) (N:=some 17) #[Y,Y,Y,Y,Y,Y,Y,Y,Y,Y,Y,Y,Y,Y,Y,Z,Z,Z] rfl rfl (one_of HT_.out (by kernel_rfl)) (by decide) (fun K hK => ?_);refine goes_ Try.func143 (by kernel_rfl) rfl #[.slice A12 (l1.drop (t149 : Int).toNat).length (c1 - t149.toNat)] (by rfl) rfl rfl (by (try simp only [List.map_toArray,List.map_cons,List.map_nil]);first | done | (rw [show (l1.drop (t149 : Int).toNat).length = (l1.length - t149.toNat) from List.length_drop] <;> rfl) | rfl | (simp only [List.length_drop,List.length_take];rfl)) ?_;with_reducible refine (spec_CountStorms.calls k _ _ (l1.drop (t149 : Int).toNat) t151 _ ?side1 ?side2 A8.out).mono ?_
    (case side1 => repeat (first | exact (Kd.C_below HR150.out qq174) | (with_reducible refine cA ?_ _) | (with_reducible refine cN ?_ _) | (with_reducible refine cD ?_)));(case side2 => exact HC150.out)
    rintro e w' ⟨rfl,⟨nd,rfl⟩⟩
    refine ⟨_,rfl,?_⟩;refine hK.out _ _ ⟨(blk_cell BK147.out 0).trans rfl,(blk_cell BK147.out 1).trans rfl⟩ (fun hHeld => ?_);clear hK K;refine norm_ (a':=?_) ?_ ?_;rotate_left
    ·show Act.put _ (some 17) _ = _
     simp only [Act.put,sA,s0,s1,i64_w,i32_w];rfl
    refine pV (i:=15) (N:=some 20) #[Y,Y,Y,Y,Y,Y,Y,Y,Y,Y,Y,Y,Y,Y,Y,Y,Z,Z] rfl rfl qT ?_
    refine pV (i:=16) (N:=some 21) #[Y,Y,Y,Y,Y,Y,Y,Y,Y,Y,Y,Y,Y,Y,Y,Y,Y,Z] rfl rfl qT ?_
    refine pV (i:=17) (N:=some 4) #[Y,Y,Y,Y,Y,Y,Y,Y,Y,Y,Y,Y,Y,Y,Y,Y,Y,Y] rfl rfl qT ?_
    refine done_ (done_of HT_.out (by kernel_rfl)) ?_
    try go_wp2
    go_ret
    exact ⟨qq244,qq174⟩
   ·rw [if_neg c7] at H;exact absurd H (by simp)
  ·rw [if_neg c6] at H;exact absurd H (by simp)
 ·replace c4:=Bool.eq_false_iff.mpr c4;subst c4;have H1 : (some false) = some r:=by rw [if_neg (show ¬ (false = true) by decide)] at H;exact H
  clear H;have H:=H1;clear H1;obtain rfl:=Option.some.inj H
  go_enter Try.func122,Try.ntmps122
  try go_wp2_with (first | ((with_reducible refine gate_dst (N:=2) rfl ?_);(try (refine gate_guard (by rfl) ?_;dsimp only));refine box_event ?hg (N:=2) ?hd (cs:=#[.int .i64 a0_0,.int .i64 a0_1]) (t:=37) ?hr ?_;(case hd => rfl);(case hg => rfl);(case hr => exact qq299);intro gb147 hg w13 hbox hb;have BK147:=am (hbox);have GW147:=am ((qq153 : w.heap.size ≤ gb147));have GE147:=am ((qq153 : w.heap.size ≤ gb147));replace HB:=am (below_step qq189 hb);clear hb hbox hg))
  replace BK147:=am (blk_drew BK147.out);replace HB:=am (below_drew1 HB.out);refine start_ (n:=18) (S:=fun w' => w'.cell? ⟨gb147,0,none⟩ = some (.int .i64 a0_0) ∧ w'.cell? ⟨gb147,1,none⟩ = some (.int .i64 a0_1)) (ds:=[]) #[Z,Z,Z,Z,Z,Z,Z,Z,Z,Z,Z,Z,Z,Z,Z,Z,Z,Z] (by kernel_rfl) rfl rfl ⟨(blk_cell BK147.out 0).trans rfl,(blk_cell BK147.out 1).trans rfl⟩ (fun hHeld => ?_);refine with_tabW spec_MayStorm.tab1 spec_MayStorm.bits1 (fun HT_ HW_ => ?_)
  generalize w13.drew = w14 at BK147 HB hHeld ⊢
  refine tV2 (i:=0) (N:=some 5) #[Y,Z,Z,Z,Z,Z,Z,Z,Z,Z,Z,Z,Z,Z,Z,Z,Z,Z] rfl rfl (take_ofW HT_.out HW_.out (by kernel_rfl)) hHeld ?_
  refine one_ (i:=1) (N:=some 6) #[Y,Y,Z,Z,Z,Z,Z,Z,Z,Z,Z,Z,Z,Z,Z,Z,Z,Z] rfl rfl (one_of HT_.out (by kernel_rfl)) (by decide) (fun K hK => ?_);refine goes_ Try.func139 (by kernel_rfl) rfl #[.agg #[.int .i64 a0_0,.int .i64 a0_1]] (by rfl) rfl rfl qq177 ?_;with_reducible refine (spec_IsRule.calls a0_0 a0_1 false _ A3.out).mono ?_
  rintro e w15 ⟨rfl,hb⟩
  refine ⟨_,rfl,?_⟩;replace BK147:=am (blk_below (g:=gb147) (o:=.cells #[.int .i64 a0_0,.int .i64 a0_1] 37 (0,0)) qq240 hb);replace HB:=am (below_step qq174 hb);(try clear hb);(try clear hb2);(try clear hk);(try clear hi);refine hK.out _ _ ⟨(blk_cell BK147.out 0).trans rfl,(blk_cell BK147.out 1).trans rfl⟩ (fun hHeld => ?_);clear hK K;refine norm_ (a':=?_) ?_ ?_;rotate_left
  ·show Act.put _ (some 6) _ = _
   simp only [Act.put,sA,s0,s1,i64_w,i32_w];rfl
  refine pV (i:=2) (N:=some 7) #[Y,Y,Y,Z,Z,Z,Z,Z,Z,Z,Z,Z,Z,Z,Z,Z,Z,Z] rfl rfl qT ?_
  refine pW (i:=3) (N:=some 8) #[Y,Y,Y,Y,Z,Z,Z,Z,Z,Z,Z,Z,Z,Z,Z,Z,Z,Z] rfl rfl qT ?_
  refine pW (i:=4) (N:=some 9) #[Y,Y,Y,Y,Y,Z,Z,Z,Z,Z,Z,Z,Z,Z,Z,Z,Z,Z] rfl rfl qT ?_
  refine pW (i:=5) (N:=some 10) #[Y,Y,Y,Y,Y,Y,Z,Z,Z,Z,Z,Z,Z,Z,Z,Z,Z,Z] rfl rfl qT ?_
  refine pW (i:=6) (N:=some 11) #[Y,Y,Y,Y,Y,Y,Y,Z,Z,Z,Z,Z,Z,Z,Z,Z,Z,Z] rfl rfl qT ?_
  refine pW (i:=7) (N:=some 12) #[Y,Y,Y,Y,Y,Y,Y,Y,Z,Z,Z,Z,Z,Z,Z,Z,Z,Z] rfl rfl qT ?_
  refine pW (i:=8) (N:=some 13) #[Y,Y,Y,Y,Y,Y,Y,Y,Y,Z,Z,Z,Z,Z,Z,Z,Z,Z] rfl rfl qT ?_
  refine pW (i:=9) (N:=some 14) #[Y,Y,Y,Y,Y,Y,Y,Y,Y,Y,Z,Z,Z,Z,Z,Z,Z,Z] rfl rfl qT ?_
  refine pW (i:=10) (N:=some 15) #[Y,Y,Y,Y,Y,Y,Y,Y,Y,Y,Y,Z,Z,Z,Z,Z,Z,Z] rfl rfl qT ?_
  refine pW (i:=11) (N:=some 16) #[Y,Y,Y,Y,Y,Y,Y,Y,Y,Y,Y,Y,Z,Z,Z,Z,Z,Z] rfl rfl qT ?_
  refine pW (i:=12) (N:=some 17) #[Y,Y,Y,Y,Y,Y,Y,Y,Y,Y,Y,Y,Y,Z,Z,Z,Z,Z] rfl rfl qT ?_
  refine pW (i:=13) (N:=some 18) #[Y,Y,Y,Y,Y,Y,Y,Y,Y,Y,Y,Y,Y,Y,Z,Z,Z,Z] rfl rfl qT ?_
  refine pW (i:=14) (N:=some 19) #[Y,Y,Y,Y,Y,Y,Y,Y,Y,Y,Y,Y,Y,Y,Y,Z,Z,Z] rfl rfl qT ?_
  refine pW (i:=15) (N:=some 20) #[Y,Y,Y,Y,Y,Y,Y,Y,Y,Y,Y,Y,Y,Y,Y,Y,Z,Z] rfl rfl qT ?_
  refine pV (i:=16) (N:=some 21) #[Y,Y,Y,Y,Y,Y,Y,Y,Y,Y,Y,Y,Y,Y,Y,Y,Y,Z] rfl rfl qT ?_
  refine pV (i:=17) (N:=some 4) #[Y,Y,Y,Y,Y,Y,Y,Y,Y,Y,Y,Y,Y,Y,Y,Y,Y,Y] rfl rfl qT ?_
  refine done_ (done_of HT_.out (by kernel_rfl)) ?_
  try go_wp2
  go_ret
  exact ⟨qq244,qq174⟩

/-! ### spec_l6Past: function 80 -/
def spec_l6Past.l0 : Nat → Int → List Bool → Int → List Int → Int → Int → Int → Int → Option (List Bool × Int × Int)
 | 0,_,_,_,_,_,_,_,_ => none
 | k + 1,x2,x7,x8,x1000,x1001,x1002,x153000,x153001 => if x8 < x2 then ((spec_MayStorm.f k x153000 x153001 x7).bind fun t156 => (if t156 = true then ((spec_l1Once.f x1000 x1001 x1002 2).bind fun bt157 => (if x7.length < 140737488355328 then (spec_l6Past.l0 k x2 (x7 ++ [bt157.1]) (wrap64 (x8 + 1)) x1000 bt157.2.1 bt157.2.2 x153000 x153001) else (none))) else (if x7.length < 140737488355328 then (spec_l6Past.l0 k x2 (x7 ++ [false]) (wrap64 (x8 + 1)) x1000 x1001 x1002 x153000 x153001) else (none)))) else (some (x7,x1001,x1002))
def spec_l6Past.f (k : Nat) (s0_0 : List Int) (s0_1 : Int) (s0_2 : Int) (a1_0 : Int) (a1_1 : Int) (a2 : Int) : Option (List Bool × Int × Int) := spec_l6Past.l0 k a2 (([] : List Bool)) 0 s0_0 s0_1 s0_2 a1_0 a1_1
set_option maxHeartbeats 8000000 in
set_option maxRecDepth 100000 in
theorem spec_l6Past.calls (k : Nat) (g : Nat) (s0_0 : List Int) (s0_1 : Int) (s0_2 : Int) (a1_0 : Int) (a1_1 : Int) (a2 : Int) (r1 : List Bool) (r2 : Int) (r3 : Int) (w0 w : World) (hI : IsS141 w0 w g s0_0 s0_1 s0_2) (hB : Below w0.heap.size w0 w) (h : spec_l6Past.f k s0_0 s0_1 s0_2 a1_0 a1_1 a2 = some (r1, r2, r3)) :
  Calls Try.prog 80 #[.pointer (some ⟨g,0,none⟩),.agg #[.int .i64 a1_0,.int .i64 a1_1],.int .i64 a2] w fun e w' => ∃ v0_ : Value,e = .returned (v0_) ∧ Kd.R Kd.bool 4 w' w.heap.size (fun _ => True) v0_ r1 ∧ IsS141 w0 w' g s0_0 r2 r3 ∧ Below w0.heap.size w0 w' ∧ KeepBut w w' g none:=by
 have hu37:=Try.underlying37;have HI0:=am hI;have HK:=am (KeepBut.refl w g none);have HL:=am hB.size;clear hI;have HW0:=am hB.size;have HB:=am hB;clear hB;have H : (spec_l6Past.l0 k a2 (([] : List Bool)) 0 s0_0 s0_1 s0_2 a1_0 a1_1) = some (r1,r2,r3):=h;clear h;obtain ⟨y153,hy153⟩ : ∃ y_ : List Bool,y_ = (([] : List Bool)):=⟨_,rfl⟩
 replace H : (spec_l6Past.l0 k a2 y153 0 s0_0 s0_1 s0_2 a1_0 a1_1) = some (r1,r2,r3):=by first | (rw [hy153];with_reducible exact H) | (have H2_:=(Option.bind_some _ _).symm.trans H;rw [hy153];with_reducible exact H2_) | (have H2_:=(Option.bind_some _ _).symm.trans H;with_reducible exact H2_) | with_reducible exact H | (rw [hy153];exact H) | exact H
 have Ny153:=am hy153;clear hy153;have H':=am H;clear H
 go_enter Try.func80,Try.ntmps80
 go_wp2_with (first | ((with_reducible refine gate_dst (N:=4) rfl ?_);refine box_event ?hg (N:=4) ?hd (cs:=#[.int .i64 a1_0,.int .i64 a1_1]) (t:=37) ?hr ?_;(case hd => rfl);(case hg => rfl);(case hr => exact qq299);intro gb152 hg w4 hbox hb;replace HB:=am (below_step qq149 hb);have BK152:=am (hbox);have GW152:=am ((qq92 : w.heap.size ≤ gb152));have GE152:=am ((Nat.le_trans HW0.out (qq92 : w.heap.size ≤ gb152) : w0.heap.size ≤ gb152));replace HK:=am (KeepBut.trans qq146 (KeepBut.of_below hb g none) (.inl rfl));have NB0_152:=am ((qq26 : g ≠ gb152));have NB152_0:=am ((qq27 : gb152 ≠ g));replace HI0:=am (IsS141.below qq122 hb);clear hb hbox hg) | ((with_reducible refine gate_dst (N:=9) rfl ?_);refine Kd.R_lit Kd.bool _ 4 ?hg (N:=9) ?hd (xs:=([] : List Bool)) (inner:=[]) (ok:=fun _ => True) (okp:=fun _ => True) ?hr ?hp (fun _ hk => hk) trivial (Below.refl _ _) (Nat.le_refl _) (by simp) ?_;(case hd => rfl);(case hg => rfl);(case hr => exact qq299);(case hp => exact qq306);intro v154 w5 ho6 hb hg_ hnew_;clear hg_ hnew_;(first | rw [← Ny153.out] at ho6 | (simp only [Int.reduceToNat] at ho6;rw [← Ny153.out] at ho6));have HO155:=am (Kd.R_lower ho6 (keep_size (w:=w) (g:=g) (row:=none) qq111));replace BK152:=am (blk_below (g:=gb152) (o:=.cells #[.int .i64 a1_0,.int .i64 a1_1] 37 (0,0)) qq239 hb);replace HK:=am (KeepBut.trans qq111 (KeepBut.of_below hb g none) (.inl rfl));replace HB:=am (below_step qq120 hb);replace HI0:=am (IsS141.below qq72 hb);clear hb ho6))
 go_loopg [7,8] k (fun kq v7 v8 w' => ∃ (x7_1 : List Bool) (x8_1 : Int) (x1001_1 : Int) (x1002_1 : Int),v8 = .int .i64 x8_1 ∧ Aside0 (spec_l6Past.l0 kq a2 x7_1 x8_1 s0_0 x1001_1 x1002_1 a1_0 a1_1 = some (r1,r2,r3)) ∧ Aside0 (kq ≤ k) ∧ Aside0 (Kd.R Kd.bool 4 w' w.heap.size (fun _ => True) v7 x7_1) ∧ Aside0 (w'.heap[gb152]? = some (.cells #[.int .i64 a1_0,.int .i64 a1_1] 37 (0,0))) ∧ Aside0 (IsS141 w0 w' g s0_0 x1001_1 x1002_1) ∧ Aside0 (KeepBut w w' g none) ∧ Aside0 (Below w0.heap.size w0 w'))
 case atStart => exact ⟨(y153),(0),(s0_1),(s0_2),qq298,H',⟨Nat.le_refl _⟩,⟨by (with_reducible repeat (first | apply kA | apply kN | apply kD));exact HO155.out⟩,⟨qq239⟩,⟨qq72⟩,⟨qq111⟩,⟨qq120⟩⟩
 case round =>
  clear H'
  try clear p2
  obtain ⟨x7_1,x8_1,x1001_1,x1002_1,rfl,HA,HK1,HO_7,BK152,HI0,HK,HB⟩:=hrel
  cases gk with
  | zero => exact absurd HA.out (by simp [spec_l6Past.l0])
  | succ k1 =>
   have H:=HA.out;clear HA;simp only [spec_l6Past.l0] at H
   by_cases c7 : x8_1 < a2
   ·rw [if_pos c7] at H;have c7b0 : decide (x8_1 < a2) = true:=decide_eq_true c7;clear c7;replace H:=bS.mp H;obtain ⟨t156,A80,H⟩:=H;replace H : (if t156 = true then ((spec_l1Once.f s0_0 x1001_1 x1002_1 2).bind fun bt157 => (if x7_1.length < 140737488355328 then (spec_l6Past.l0 k1 a2 (x7_1 ++ [bt157.1]) (wrap64 (x8_1 + 1)) s0_0 bt157.2.1 bt157.2.2 a1_0 a1_1) else (none))) else (if x7_1.length < 140737488355328 then (spec_l6Past.l0 k1 a2 (x7_1 ++ [false]) (wrap64 (x8_1 + 1)) s0_0 x1001_1 x1002_1 a1_0 a1_1) else (none))) = some (r1,r2,r3):=H;have A8:=am A80;clear A80
    by_cases c9 : t156 = true
    ·subst c9;have H1 : ((spec_l1Once.f s0_0 x1001_1 x1002_1 2).bind fun bt157 => (if x7_1.length < 140737488355328 then (spec_l6Past.l0 k1 a2 (x7_1 ++ [bt157.1]) (wrap64 (x8_1 + 1)) s0_0 bt157.2.1 bt157.2.2 a1_0 a1_1) else (none))) = some (r1,r2,r3):=by rw [if_pos rfl] at H;exact H
     clear H;have H:=H1;clear H1;replace H:=bS.mp H;obtain ⟨⟨t157,t158,t159⟩,A100,H⟩:=H;replace H : (if x7_1.length < 140737488355328 then (spec_l6Past.l0 k1 a2 (x7_1 ++ [t157]) (wrap64 (x8_1 + 1)) s0_0 t158 t159 a1_0 a1_1) else (none)) = some (r1,r2,r3):=H;have A10:=am A100;clear A100
     by_cases c11 : x7_1.length < 140737488355328
     ·rw [if_pos c11] at H;have LMc11:=am c11;clear c11;obtain ⟨y160,hy160⟩ : ∃ y_ : List Bool,y_ = (x7_1 ++ [t157]):=⟨_,rfl⟩
      replace H : (spec_l6Past.l0 k1 a2 y160 (wrap64 (x8_1 + 1)) s0_0 t158 t159 a1_0 a1_1) = some (r1,r2,r3):=by first | (rw [hy160];with_reducible exact H) | (have H2_:=(Option.bind_some _ _).symm.trans H;rw [hy160];with_reducible exact H2_) | (have H2_:=(Option.bind_some _ _).symm.trans H;with_reducible exact H2_) | with_reducible exact H | (rw [hy160];exact H) | exact H
      have Ny160:=am hy160;clear hy160;have H':=am H;clear H;have hnb12:=NB152_0.out;have hnc12:=NB0_152.out;obtain ⟨hcz13_0,hcz13_1,hfz13_0,hfz13_1⟩:=bcl2 BK152.out;obtain ⟨Ao14,co14,eo14⟩:=Kd.R_slice HO_7.out;subst eo14;go_wp2_with (first | ((with_reducible refine gate_callee (f:=122) rfl ?_);refine goesL_ (some 18) rfl rfl Try.func122 (by kernel_rfl) rfl #[.agg #[.int .i64 a1_0,.int .i64 a1_1],.slice Ao14 x7_1.length co14] rfl qq177 ?_;(with_reducible refine (spec_MayStorm.calls k1 a1_0 a1_1 _ _ x7_1 true _ ?side1 ?side2 A8.out).mono ?_);(case side1 => exact qq145);(case side2 => exact (Kd.R_reads' HO_7.out).2.1);rintro e w15 ⟨rfl,hb⟩;refine ⟨_,rfl,?_⟩;replace HO_7:=am (Kd.R_below qq288 hb);replace BK152:=am (blk_below (g:=gb152) (o:=.cells #[.int .i64 a1_0,.int .i64 a1_1] 37 (0,0)) qq239 hb);replace HK:=am (KeepBut.trans qq111 (KeepBut.of_below hb g none) (.inl rfl));replace HB:=am (below_step qq120 hb);replace HI0:=am (IsS141.below qq72 hb);(try clear hb);(try clear hb2);(try clear hk);(try clear hi)) | (go_at_call 81;(with_reducible refine (spec_l1Once.calls g s0_0 x1001_1 x1002_1 2 t157 t158 t159 w0 _ ?side1 ?side2 A10.out).mono ?_);(case side1 => exact qq72);(case side2 => exact qq120);rintro e w16 ⟨rfl,hi,hb,hk⟩;replace HO_7:=am (Kd.R_mono (Kd.R_keep (IsS141.apart (show IsS141 w0 _ g s0_0 x1001_1 x1002_1 from by repeat (first | (with_reducible first | exact HI0.out | apply IsS141.alloc | apply IsS141.drewN | apply IsS141.drew | apply IsS141.set_1 | apply IsS141.set_2 | refine IsS141.far ?_ NB0_152.out _) | exact HI0.out)) qq288 (by decide)) hk (fun _ h => h.2)) (fun _ h => h.1));replace BK152:=am (KeepBut.blk hk (g':=gb152) (o:=.cells #[.int .i64 a1_0,.int .i64 a1_1] 37 (0,0)) qq239 NB152_0.out (by simp));replace HK:=am (KeepBut.trans qq111 hk (.inl rfl));replace HB:=am (hb);replace HI0:=am (hi);(try clear hb);(try clear hb2);(try clear hk);(try clear hi)) | ((with_reducible refine gate_builtin (b:=.append) (xs:=#[.tmp 15,.tmp 23]) rfl ?_);at_builtin;refine Kd.R_append Kd.bool w.heap.size rfl (.tmp 15) (.tmp 23) 25 4 (.bool false) 1 rfl Try.underlying25 info4 rfl (by decide) (by omega) (.slice Ao14 x7_1.length co14) x7_1 t157 [.bool t157] (fun _ => True) (fun _ => False) rfl rfl ?aP (fun _ hk => hk.elim) ?aF ?aO (Below.refl _ _) ?aS ?aL ?_;(case aP => exact rfl);(case aF => exact qq304);(case aO => exact qq248);(case aS => exact qq58);(case aL => have:=LMc11.out;omega);intro v161 w17 ho hb hg hat;rw [← Ny160.out] at ho;replace BK152:=am (blk_grown (g:=gb152) (o:=.cells #[.int .i64 a1_0,.int .i64 a1_1] 37 (0,0)) qq239 hg (Kd.R_ne HO_7.out BK152.out (by decide)));replace HB:=am (below_weaken qq120 HL.out hb);replace HI0:=am (IsS141.grown qq72 hg (IsS141.own_ne HI0.out HO_7.out (by decide)));replace HK:=am (KeepBut.trans qq111 (KeepBut.of_grown hg g) (Kd.R_base2 HO_7.out));have HO162:=am (ho);clear HO_7;clear ho hb hg hat))
      go_roundg k1
      case measure => have:=HK1.out;omega
      case rel => exact ⟨(y160),(wrap64 (x8_1 + 1)),(t158),(t159),qq298,H',⟨qq307⟩,⟨by (with_reducible repeat (first | apply kA | apply kN | apply kD));exact HO162.out⟩,⟨qq239⟩,⟨qq72⟩,⟨qq111⟩,⟨qq120⟩⟩
     ·rw [if_neg c11] at H;exact absurd H (by simp)
    ·replace c9:=Bool.eq_false_iff.mpr c9;subst c9;have H1 : (if x7_1.length < 140737488355328 then (spec_l6Past.l0 k1 a2 (x7_1 ++ [false]) (wrap64 (x8_1 + 1)) s0_0 x1001_1 x1002_1 a1_0 a1_1) else (none)) = some (r1,r2,r3):=by rw [if_neg (show ¬ (false = true) by decide)] at H;exact H
     clear H;have H:=H1;clear H1
     by_cases c18 : x7_1.length < 140737488355328
     ·rw [if_pos c18] at H;have LMc18:=am c18;clear c18;obtain ⟨y163,hy163⟩ : ∃ y_ : List Bool,y_ = (x7_1 ++ [false]):=⟨_,rfl⟩
      replace H : (spec_l6Past.l0 k1 a2 y163 (wrap64 (x8_1 + 1)) s0_0 x1001_1 x1002_1 a1_0 a1_1) = some (r1,r2,r3):=by first | (rw [hy163];with_reducible exact H) | (have H2_:=(Option.bind_some _ _).symm.trans H;rw [hy163];with_reducible exact H2_) | (have H2_:=(Option.bind_some _ _).symm.trans H;with_reducible exact H2_) | with_reducible exact H | (rw [hy163];exact H) | exact H
      have Ny163:=am hy163;clear hy163;have H':=am H;clear H;have hnb19:=NB152_0.out;have hnc19:=NB0_152.out;obtain ⟨hcz20_0,hcz20_1,hfz20_0,hfz20_1⟩:=bcl2 BK152.out;obtain ⟨Ao21,co21,eo21⟩:=Kd.R_slice HO_7.out;subst eo21;go_wp2_with (first | ((with_reducible refine gate_callee (f:=122) rfl ?_);refine goesL_ (some 18) rfl rfl Try.func122 (by kernel_rfl) rfl #[.agg #[.int .i64 a1_0,.int .i64 a1_1],.slice Ao21 x7_1.length co21] rfl qq177 ?_;(with_reducible refine (spec_MayStorm.calls k1 a1_0 a1_1 _ _ x7_1 false _ ?side1 ?side2 A8.out).mono ?_);(case side1 => exact qq145);(case side2 => exact (Kd.R_reads' HO_7.out).2.1);rintro e w22 ⟨rfl,hb⟩;refine ⟨_,rfl,?_⟩;replace HO_7:=am (Kd.R_below qq288 hb);replace BK152:=am (blk_below (g:=gb152) (o:=.cells #[.int .i64 a1_0,.int .i64 a1_1] 37 (0,0)) qq239 hb);replace HK:=am (KeepBut.trans qq111 (KeepBut.of_below hb g none) (.inl rfl));replace HB:=am (below_step qq120 hb);replace HI0:=am (IsS141.below qq72 hb);(try clear hb);(try clear hb2);(try clear hk);(try clear hi)) | ((with_reducible refine gate_builtin (b:=.append) (xs:=#[.tmp 15,.tmp 23]) rfl ?_);at_builtin;refine Kd.R_append Kd.bool w.heap.size rfl (.tmp 15) (.tmp 23) 25 4 (.bool false) 1 rfl Try.underlying25 info4 rfl (by decide) (by omega) (.slice Ao21 x7_1.length co21) x7_1 false [.bool false] (fun _ => True) (fun _ => False) rfl rfl ?aP (fun _ hk => hk.elim) ?aF ?aO (Below.refl _ _) ?aS ?aL ?_;(case aP => exact rfl);(case aF => exact qq304);(case aO => exact qq248);(case aS => exact qq58);(case aL => have:=LMc18.out;omega);intro v164 w23 ho hb hg hat;rw [← Ny163.out] at ho;replace BK152:=am (blk_grown (g:=gb152) (o:=.cells #[.int .i64 a1_0,.int .i64 a1_1] 37 (0,0)) qq239 hg (Kd.R_ne HO_7.out BK152.out (by decide)));replace HB:=am (below_weaken qq120 HL.out hb);replace HI0:=am (IsS141.grown qq72 hg (IsS141.own_ne HI0.out HO_7.out (by decide)));replace HK:=am (KeepBut.trans qq111 (KeepBut.of_grown hg g) (Kd.R_base2 HO_7.out));have HO165:=am (ho);clear HO_7;clear ho hb hg hat))
      go_roundg k1
      case measure => have:=HK1.out;omega
      case rel => exact ⟨(y163),(wrap64 (x8_1 + 1)),(x1001_1),(x1002_1),qq298,H',⟨qq307⟩,⟨by (with_reducible repeat (first | apply kA | apply kN | apply kD));exact HO165.out⟩,⟨qq239⟩,⟨qq72⟩,⟨qq111⟩,⟨qq120⟩⟩
     ·rw [if_neg c18] at H;exact absurd H (by simp)
   ·rw [if_neg c7] at H;have c7b0 : decide (x8_1 < a2) = false:=decide_eq_false c7;clear c7;simp only [Option.some.injEq,Prod.mk.injEq] at H;obtain ⟨rfl,rfl,rfl⟩:=H;go_wp2
    go_ret
    exact ⟨_,qq244,qq288,qq72,qq120,qq111⟩

end Go.Proofs.Ytcbkknpmeknppaa.PFnWeathers
