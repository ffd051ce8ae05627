/- Contracts of functions that the law FnSearch reaches, for its row: lines that the kit's printer wrote for this claim, set shorter by a program of this session (own.py), and what fell in Lean proved anew. Lean checks them. -/
import Derived.Shelf.Slices.CompactI
import Derived.Lib.OwnBridge
import Derived.Test.YtimpjccgnkbgmaaSFnSearchx0
import Derived.Test.YtimpjccgnkbgmaaSFnSearchx3
namespace Go.Proofs.Ytimpjccgnkbgmaa.PFnSearch
open Go.RowKit Go.Proofs.YtimpjccgnkbgmaaW.PrintWords Go.Proofs.YtimpjccgnkbgmaaW.PrintLast Go.Proofs.YtimpjccgnkbgmaaW.PrintMore
attribute [local go_sem] max2_int min2_int max_two min_two max_three min_three max_four min_four   -- for this text's walks alone
set_option linter.unusedVariables false
set_option linter.unusedSimpArgs false

/-! ### impl_Apart: function 44 -/
def impl_Apart.j0 : Nat → Int → Int → Bool → Int → Int → List Int → Option (Int)
 | 0,_,_,_,_,_,_ => none
 | k + 1,x1,x2,x16,x240000,x240001,x240002 => if x16 = true then (some (-1)) else (if x240000 = 0 then (none) else ((impl_size.f (wrap64 ((Int.tmod x1 x240000) - (Int.tmod x2 x240000)))).bind fun t242 => ((impl_size.f (wrap64 ((wrap64 (Int.tdiv x1 x240000)) - (wrap64 (Int.tdiv x2 x240000))))).bind fun t243 => (some (wrap64 (t242 + t243))))))
def impl_Apart.f (k : Nat) (a0_0 : Int) (a0_1 : Int) (l0_2 : List Int) (a1 : Int) (a2 : Int) : Option (Int) := (impl_IsCell.f k a0_0 a0_1 l0_2 a1).bind fun t240 => (if t240 = true then ((impl_IsCell.f k a0_0 a0_1 l0_2 a2).bind fun t241 => (impl_Apart.j0 k a1 a2 (!t241) a0_0 a0_1 l0_2)) else (impl_Apart.j0 k a1 a2 true a0_0 a0_1 l0_2))
def impl_Apart.T3 : Bool × List (List Nat × List Nat) := (true, [([], []), ([], []), ([1], [1]), ([0, 2], [0, 2]), ([], []), ([], []), ([5], [5]), ([4, 6], [4, 6]), ([3, 7], [3, 7]), ([8], [8]), ([], []), ([], []), ([11], [11]), ([10, 12], [10, 12]), ([], []), ([], []), ([15], [15]), ([14, 16], [14, 16]), ([13, 17], [13, 17]), ([18, 9], [18]), ([9, 19], [9, 19]), ([20, 19, 0, 1, 2, 3, 4, 5, 6, 7, 8, 9, 10, 11, 12, 13, 14, 15, 16, 17, 18, 19, 20], [20])])
def impl_Apart.B3 : List Nat := [0, 0, 2, 7, 0, 0, 32, 112, 255, 511, 0, 0, 2048, 7168, 0, 0, 32768, 114688, 261120, 524287, 1048575, 2097151]
theorem impl_Apart.tab3 : rtab .any (opsOf Try.f44 3) = impl_Apart.T3 := by kernel_rfl
theorem impl_Apart.bits3 : waitsOk impl_Apart.T3.2 impl_Apart.B3 = true := by kernel_rfl
set_option maxHeartbeats 8000000 in
set_option maxRecDepth 100000 in
theorem impl_Apart.calls (k : Nat) (a0_0 : Int) (a0_1 : Int) (A0_2 : Option Addr) (c0_2 : Nat) (l0_2 : List Int) (a1 : Int) (a2 : Int) (r : Int) (w : World) (hr0_2 : Kd.C (Kd.int .i64) w A0_2 l0_2.length l0_2) (hc0_2 : l0_2.length ≤ c0_2) (h : impl_Apart.f k a0_0 a0_1 l0_2 a1 a2 = some r) :
  Calls Try.prog 44 #[.agg #[.int .i64 a0_0,.int .i64 a0_1,.slice A0_2 l0_2.length c0_2],.int .i64 a1,.int .i64 a2] w fun e w' => e = .returned (.int .i64 r) ∧ Below w.heap.size w w':=by
 have hu26:=Try.underlying26;have HR0_2:=am hr0_2;have HC0_2:=am hc0_2;clear hr0_2 hc0_2;have HB:=am qq354;have H : ((impl_IsCell.f k a0_0 a0_1 l0_2 a1).bind fun t240 => (if t240 = true then ((impl_IsCell.f k a0_0 a0_1 l0_2 a2).bind fun t241 => (impl_Apart.j0 k a1 a2 (!t241) a0_0 a0_1 l0_2)) else (impl_Apart.j0 k a1 a2 true a0_0 a0_1 l0_2))) = some r:=h;clear h;have HC4:=am H;clear H
 go_enter Try.func44,Try.ntmps44
 go_upto_region 1 with (first | ((with_reducible refine gate_dst (N:=3) rfl ?_);refine box_event ?hg (N:=3) ?hd (cs:=#[.int .i64 a0_0,.int .i64 a0_1,.slice A0_2 l0_2.length c0_2]) (t:=26) ?hr ?_;(case hd => rfl);(case hg => rfl);(case hr => exact qq261);intro gb239 hg w5 hbox hb;have BK239:=am (hbox);have GW239:=am ((qq108 : w.heap.size ≤ gb239));have GE239:=am ((qq108 : w.heap.size ≤ gb239));replace HB:=am qq358;clear hb hbox hg))
 (try simp only [Act.put,sA,s0,s1])
 go_cut [16] (fun v16 wc => ∃ (kq : Nat) (x16_3 : Bool),v16 = .bool x16_3 ∧ Aside0 (impl_Apart.j0 kq a1 a2 x16_3 a0_0 a0_1 l0_2 = some r) ∧ Aside0 (kq ≤ k) ∧ Aside0 (wc.heap[gb239]? = some (.cells #[.int .i64 a0_0,.int .i64 a0_1,(.slice A0_2 l0_2.length c0_2)] 26 (0,0))) ∧ Aside0 (Below w.heap.size w wc))
 case first =>
  have H:=HC4.out;clear HC4;replace H:=bS.mp H;obtain ⟨t240,A60,H⟩:=H;replace H : (if t240 = true then ((impl_IsCell.f k a0_0 a0_1 l0_2 a2).bind fun t241 => (impl_Apart.j0 k a1 a2 (!t241) a0_0 a0_1 l0_2)) else (impl_Apart.j0 k a1 a2 true a0_0 a0_1 l0_2)) = some r:=H;have A6:=am A60;clear A60
  by_cases c7 : t240 = true
  ·subst c7;have H1 : ((impl_IsCell.f k a0_0 a0_1 l0_2 a2).bind fun t241 => (impl_Apart.j0 k a1 a2 (!t241) a0_0 a0_1 l0_2)) = some r:=by rw [if_pos rfl] at H;exact H
   clear H;have H:=H1;clear H1;replace H:=bS.mp H;obtain ⟨t241,A80,H⟩:=H;replace H : (impl_Apart.j0 k a1 a2 (!t241) a0_0 a0_1 l0_2) = some r:=H;have A8:=am A80;clear A80;have H':=am H;clear H;obtain ⟨hcz9_0,hcz9_1,hcz9_2,hfz9_0,hfz9_1,hfz9_2⟩:=bcl3 BK239.out;go_wp2_with (first | ((with_reducible refine gate_callee (f:=31) rfl ?_);refine goesL_ (some 9) rfl rfl Try.func31 (by kernel_rfl) rfl #[.agg #[.int .i64 a0_0,.int .i64 a0_1,.slice A0_2 l0_2.length c0_2],.int .i64 a1] rfl qq139 ?_;(with_reducible refine (impl_IsCell.calls k a0_0 a0_1 _ _ l0_2 a1 true _ ?side1 ?side2 A6.out).mono ?_);(case side1 => exact qq83);(case side2 => exact qq276);rintro e w10 ⟨rfl,hb⟩;refine ⟨_,rfl,?_⟩;replace BK239:=am qq301;replace HB:=am (below_step qq133 hb);(try clear hb);(try clear hb2);(try clear hk);(try clear hi);obtain ⟨hcz11_0,hcz11_1,hcz11_2,hfz11_0,hfz11_1,hfz11_2⟩:=bcl3 BK239.out) | (go_at_call 31;(with_reducible refine (impl_IsCell.calls k a0_0 a0_1 _ _ l0_2 a2 t241 _ ?side1 ?side2 A8.out).mono ?_);(case side1 => exact qq83);(case side2 => exact qq276);rintro e w12 ⟨rfl,hb⟩;replace BK239:=am qq301;replace HB:=am (below_step qq133 hb);(try clear hb);(try clear hb2);(try clear hk);(try clear hi)))
   go_meet
   case rel => exact ⟨_,(!t241),qq260,H',⟨qq265⟩,⟨qq204⟩,⟨qq133⟩⟩
  ·replace c7:=Bool.eq_false_iff.mpr c7;subst c7;have H1 : (impl_Apart.j0 k a1 a2 true a0_0 a0_1 l0_2) = some r:=by rw [if_neg (show ¬ (false = true) by decide)] at H;exact H
   clear H;have H:=H1;clear H1;have H':=am H;clear H;obtain ⟨hcz13_0,hcz13_1,hcz13_2,hfz13_0,hfz13_1,hfz13_2⟩:=bcl3 BK239.out;go_wp2_with (first | ((with_reducible refine gate_callee (f:=31) rfl ?_);refine goesL_ (some 9) rfl rfl Try.func31 (by kernel_rfl) rfl #[.agg #[.int .i64 a0_0,.int .i64 a0_1,.slice A0_2 l0_2.length c0_2],.int .i64 a1] rfl qq139 ?_;(with_reducible refine (impl_IsCell.calls k a0_0 a0_1 _ _ l0_2 a1 false _ ?side1 ?side2 A6.out).mono ?_);(case side1 => exact qq83);(case side2 => exact qq276);rintro e w14 ⟨rfl,hb⟩;refine ⟨_,rfl,?_⟩;replace BK239:=am qq301;replace HB:=am (below_step qq133 hb);(try clear hb);(try clear hb2);(try clear hk);(try clear hi)))
   go_meet
   case rel => exact ⟨_,(true),qq260,H',⟨qq265⟩,⟨qq204⟩,⟨qq133⟩⟩
 case rest =>
  clear HC4
  try clear p2
  try clear c3
  try clear c4
  try clear c7
  try clear hcz11_0
  try clear hcz11_1
  try clear hcz11_2
  try clear hcz13_0
  try clear hcz13_1
  try clear hcz13_2
  try clear hcz9_0
  try clear hcz9_1
  try clear hcz9_2
  try clear hfz11_0
  try clear hfz11_1
  try clear hfz11_2
  try clear hfz13_0
  try clear hfz13_1
  try clear hfz13_2
  try clear hfz9_0
  try clear hfz9_1
  try clear hfz9_2
  obtain ⟨kq,x16_3,rfl,HA,HJ3,BK239,HB⟩:=hcut
  cases kq with
  | zero => exact absurd HA.out (by simp [impl_Apart.j0])
  | succ kj3 =>
   have H:=HA.out;clear HA;simp only [impl_Apart.j0] at H
   by_cases c15 : x16_3 = true
   ·subst c15;have H1 : (some (-1)) = some r:=by rw [if_pos rfl] at H;exact H
    clear H;have H:=H1;clear H1;obtain rfl:=Option.some.inj H;go_wp2
    go_ret
    exact ⟨qq216,qq133⟩
   ·replace c15:=Bool.eq_false_iff.mpr c15;subst c15;have H1 : (if a0_0 = 0 then (none) else ((impl_size.f (wrap64 ((Int.tmod a1 a0_0) - (Int.tmod a2 a0_0)))).bind fun t242 => ((impl_size.f (wrap64 ((wrap64 (Int.tdiv a1 a0_0)) - (wrap64 (Int.tdiv a2 a0_0))))).bind fun t243 => (some (wrap64 (t242 + t243)))))) = some r:=by rw [if_neg (show ¬ (false = true) by decide)] at H;exact H
    clear H;have H:=H1;clear H1
    by_cases c16 : a0_0 = 0
    ·rw [if_pos c16] at H;exact absurd H (by simp)
    ·rw [if_neg c16] at H;have c16b0 : (a0_0 == 0) = false:=beq_eq_false_iff_ne.mpr c16;have c16b1 : (a0_0 != 0) = true:=bne_iff_ne.mpr c16;replace H:=bS.mp H;obtain ⟨t242,A170,H⟩:=H;replace H : ((impl_size.f (wrap64 ((wrap64 (Int.tdiv a1 a0_0)) - (wrap64 (Int.tdiv a2 a0_0))))).bind fun t243 => (some (wrap64 (t242 + t243)))) = some r:=H;have A17:=am A170;clear A170;replace H:=bS.mp H;obtain ⟨t243,A180,H⟩:=H;replace H : (some (wrap64 (t242 + t243))) = some r:=H;have A18:=am A180;clear A180;obtain rfl:=Option.some.inj H
     try go_wp2
     replace BK239:=am (blk_drew BK239.out);replace HB:=am qq374;refine start_ (n:=22) (S:=fun w' => w'.cell? ⟨gb239,0,none⟩ = some (.int .i64 a0_0) ∧ w'.cell? ⟨gb239,1,none⟩ = some (.int .i64 a0_1) ∧ w'.cell? ⟨gb239,2,none⟩ = some (.slice A0_2 l0_2.length c0_2)) (ds:=[]) #[Z,Z,Z,Z,Z,Z,Z,Z,Z,Z,Z,Z,Z,Z,Z,Z,Z,Z,Z,Z,Z,Z] (by kernel_rfl) rfl rfl ⟨(blk_cell BK239.out 0).trans rfl,(blk_cell BK239.out 1).trans rfl,(blk_cell BK239.out 2).trans rfl⟩ (fun hHeld => ?_);refine with_tabW impl_Apart.tab3 impl_Apart.bits3 (fun HT_ HW_ => ?_)
     generalize wc.drew = w19 at BK239 HB hHeld ⊢
     refine pV (i:=0) (N:=some 17) #[Y,Z,Z,Z,Z,Z,Z,Z,Z,Z,Z,Z,Z,Z,Z,Z,Z,Z,Z,Z,Z,Z] rfl rfl qT ?_
     refine pV (i:=1) (N:=some 18) #[Y,Y,Z,Z,Z,Z,Z,Z,Z,Z,Z,Z,Z,Z,Z,Z,Z,Z,Z,Z,Z,Z] rfl rfl qT ?_
     refine pV (i:=4) (N:=some 21) #[Y,Y,Z,Z,Y,Z,Z,Z,Z,Z,Z,Z,Z,Z,Z,Z,Z,Z,Z,Z,Z,Z] rfl rfl qT ?_
     refine pV (i:=5) (N:=some 22) #[Y,Y,Z,Z,Y,Y,Z,Z,Z,Z,Z,Z,Z,Z,Z,Z,Z,Z,Z,Z,Z,Z] rfl rfl qT ?_
     refine pV (i:=10) (N:=some 27) #[Y,Y,Z,Z,Y,Y,Z,Z,Z,Z,Y,Z,Z,Z,Z,Z,Z,Z,Z,Z,Z,Z] rfl rfl qT ?_
     refine pV (i:=11) (N:=some 28) #[Y,Y,Z,Z,Y,Y,Z,Z,Z,Z,Y,Y,Z,Z,Z,Z,Z,Z,Z,Z,Z,Z] rfl rfl qT ?_
     refine pV (i:=14) (N:=some 31) #[Y,Y,Z,Z,Y,Y,Z,Z,Z,Z,Y,Y,Z,Z,Y,Z,Z,Z,Z,Z,Z,Z] rfl rfl qT ?_
     refine pV (i:=15) (N:=some 32) #[Y,Y,Z,Z,Y,Y,Z,Z,Z,Z,Y,Y,Z,Z,Y,Y,Z,Z,Z,Z,Z,Z] rfl rfl qT ?_
     refine tV3 (i:=2) (N:=some 19) #[Y,Y,Y,Z,Y,Y,Z,Z,Z,Z,Y,Y,Z,Z,Y,Y,Z,Z,Z,Z,Z,Z] rfl rfl (take_ofW HT_.out HW_.out (by kernel_rfl)) hHeld ?_
     refine pV (i:=3) (N:=some 20) #[Y,Y,Y,Y,Y,Y,Z,Z,Z,Z,Y,Y,Z,Z,Y,Y,Z,Z,Z,Z,Z,Z] rfl rfl qT ?_
     refine tV3 (i:=6) (N:=some 23) #[Y,Y,Y,Y,Y,Y,Y,Z,Z,Z,Y,Y,Z,Z,Y,Y,Z,Z,Z,Z,Z,Z] rfl rfl (take_ofW HT_.out HW_.out (by kernel_rfl)) hHeld ?_
     refine pV (i:=7) (N:=some 24) #[Y,Y,Y,Y,Y,Y,Y,Y,Z,Z,Y,Y,Z,Z,Y,Y,Z,Z,Z,Z,Z,Z] rfl rfl qT ?_
     refine pV (i:=8) (N:=some 25) #[Y,Y,Y,Y,Y,Y,Y,Y,Y,Z,Y,Y,Z,Z,Y,Y,Z,Z,Z,Z,Z,Z] rfl rfl qT ?_
     refine tV3 (i:=12) (N:=some 29) #[Y,Y,Y,Y,Y,Y,Y,Y,Y,Z,Y,Y,Y,Z,Y,Y,Z,Z,Z,Z,Z,Z] rfl rfl (take_ofW HT_.out HW_.out (by kernel_rfl)) hHeld ?_
     refine pV (i:=13) (N:=some 30) #[Y,Y,Y,Y,Y,Y,Y,Y,Y,Z,Y,Y,Y,Y,Y,Y,Z,Z,Z,Z,Z,Z] rfl rfl qT ?_
     refine tV3 (i:=16) (N:=some 33) #[Y,Y,Y,Y,Y,Y,Y,Y,Y,Z,Y,Y,Y,Y,Y,Y,Y,Z,Z,Z,Z,Z] rfl rfl (take_ofW HT_.out HW_.out (by kernel_rfl)) hHeld ?_
     refine pV (i:=17) (N:=some 34) #[Y,Y,Y,Y,Y,Y,Y,Y,Y,Z,Y,Y,Y,Y,Y,Y,Y,Y,Z,Z,Z,Z] rfl rfl qT ?_
     refine pV (i:=18) (N:=some 35) #[Y,Y,Y,Y,Y,Y,Y,Y,Y,Z,Y,Y,Y,Y,Y,Y,Y,Y,Y,Z,Z,Z] rfl rfl qT ?_
     refine one_ (i:=9) (N:=some 26) #[Y,Y,Y,Y,Y,Y,Y,Y,Y,Y,Y,Y,Y,Y,Y,Y,Y,Y,Y,Z,Z,Z] rfl rfl (one_of HT_.out (by kernel_rfl)) (by decide) (fun K hK => ?_);refine goes_ Try.func51 (by kernel_rfl) rfl #[.int .i64 (wrap64 ((Int.tmod a1 a0_0) - (Int.tmod a2 a0_0)))] (by rfl) rfl rfl qq139 ?_;with_reducible refine (impl_size.calls (wrap64 ((Int.tmod a1 a0_0) - (Int.tmod a2 a0_0))) t242 _ A17.out).mono ?_
     rintro e w20 ⟨rfl,hb⟩
     refine ⟨_,rfl,?_⟩;replace BK239:=am qq301;replace HB:=am (below_step qq133 hb);(try clear hb);(try clear hb2);(try clear hk);(try clear hi);refine hK.out _ _ ⟨(blk_cell BK239.out 0).trans rfl,(blk_cell BK239.out 1).trans rfl,(blk_cell BK239.out 2).trans rfl⟩ (fun hHeld => ?_);clear hK K;refine norm_ (a':=?_) ?_ ?_;rotate_left
     ·show Act.put _ (some 26) _ = _
      simp only [Act.put,sA,s0,s1,i64_w,i32_w];rfl
     refine one_ (i:=19) (N:=some 36) #[Y,Y,Y,Y,Y,Y,Y,Y,Y,Y,Y,Y,Y,Y,Y,Y,Y,Y,Y,Y,Z,Z] rfl rfl (one_of HT_.out (by kernel_rfl)) (by decide) (fun K hK => ?_);refine goes_ Try.func51 (by kernel_rfl) rfl #[.int .i64 (wrap64 ((wrap64 (Int.tdiv a1 a0_0)) - (wrap64 (Int.tdiv a2 a0_0))))] (by rfl) rfl rfl qq139 ?_;with_reducible refine (impl_size.calls (wrap64 ((wrap64 (Int.tdiv a1 a0_0)) - (wrap64 (Int.tdiv a2 a0_0)))) t243 _ A18.out).mono ?_
     rintro e w21 ⟨rfl,hb⟩
     refine ⟨_,rfl,?_⟩;replace BK239:=am qq301;replace HB:=am (below_step qq133 hb);(try clear hb);(try clear hb2);(try clear hk);(try clear hi);refine hK.out _ _ ⟨(blk_cell BK239.out 0).trans rfl,(blk_cell BK239.out 1).trans rfl,(blk_cell BK239.out 2).trans rfl⟩ (fun hHeld => ?_);clear hK K;refine norm_ (a':=?_) ?_ ?_;rotate_left
     ·show Act.put _ (some 36) _ = _
      simp only [Act.put,sA,s0,s1,i64_w,i32_w];rfl
     refine pV (i:=20) (N:=some 37) #[Y,Y,Y,Y,Y,Y,Y,Y,Y,Y,Y,Y,Y,Y,Y,Y,Y,Y,Y,Y,Y,Z] rfl rfl qT ?_
     refine pV (i:=21) (N:=some 6) #[Y,Y,Y,Y,Y,Y,Y,Y,Y,Y,Y,Y,Y,Y,Y,Y,Y,Y,Y,Y,Y,Y] rfl rfl qT ?_
     refine done_ (done_of HT_.out (by kernel_rfl)) ?_
     try go_wp2
     go_ret
     exact ⟨qq216,qq133⟩

/-! ### slices_Compact_int_int: function 45 -/
def slices_Compact_int_int.f (l0 : List Int) : Option (List Int) := some (Lib.compact l0)
theorem slices_Compact_int_int.lays : Lays2.n20 Try.prog ⟨fun x => if x = 20 then 45 else x, fun x => if x = 0 then 0 else if x = 3 then 3 else if x = 4 then 4 else if x = 22 then 24 else x, fun x => x⟩ where
 mixed:=by kernel_rfl
 f20:=(show Try.prog.funcs[45]? = _ from Try.func45).trans (by kernel_rfl)
 t0:=Try.underlying0
 a0:=Try.isAgg0
 z0:=Try.sizeOf0
 v0:=Try.zeroValue0
 t3:=Try.underlying3
 a3:=Try.isAgg3
 z3:=Try.sizeOf3
 v3:=Try.zeroValue3
 t4:=Try.underlying4
 a4:=Try.isAgg4
 z4:=Try.sizeOf4
 v4:=Try.zeroValue4
 t22:=Try.underlying24
 a22:=Try.isAgg24
 z22:=Try.sizeOf24
 v22:=Try.zeroValue24
 i3:=by kernel_rfl
theorem slices_Compact_int_int.calls (P0_ : Nat → Prop) (u9000_ : Value) (l0 : List Int) (r1 : List Int) (w0 w : World) (hB : Below w0.heap.size w0 w) (ho0 : Kd.R (Kd.int .i64) 3 w w0.heap.size P0_ u9000_ l0) (h : slices_Compact_int_int.f l0 = some r1) :
  Calls Try.prog 45 #[u9000_] w fun e w' => ∃ v1,e = .returned v1 ∧ Kd.R (Kd.int .i64) 3 w' w0.heap.size (fun k_ => (P0_ k_ ∨ w.heap.size ≤ k_)) v1 r1 ∧ Below w0.heap.size w0 w' ∧ Kept w w' (fun k_ => P0_ k_):=by
 obtain rfl : Lib.compact l0 = r1:=Option.some.inj h;have hown : w.ownsRow w0.heap.size 3 1 u9000_ l0.length (l0.map (Value.int .i64)):=Kd.own_of_R ho0
 by_cases hnil : u9000_ = .slice none 0 0
 ·subst hnil
  have hl : l0 = []:=by
   have e:=(Kd.R_reads' ho0).1;exact List.eq_nil_of_length_eq_zero e.symm
  subst hl;refine (Any.slices_Compact_int_empty slices_Compact_int_int.lays none 0 w).mono ?_
  rintro e w' ⟨rfl,rfl⟩
  exact ⟨_,rfl,Kd.R_nil _ _ _ _ _,hB,Kept.refl _ _⟩
 ·obtain ⟨g,cap,rfl,hbg,hgl,hncap,hcm,hlen,hH⟩:=Lib.holds_of_ownsRow hown hnil;have hle:=Lib.compact_length_le l0;have hmx : l0.length ≤ 9223372036854775807:=Nat.le_trans (Nat.le_trans hncap hcm) (by decide);refine (Any.slices_Compact_int slices_Compact_int_int.lays g 0 cap l0 w hH hmx (by omega)).mono ?_
  rintro e w' ⟨rfl,q,rfl⟩
  have hc:=Lib.ownsRow_putRow (q:=q) (k:=(Lib.compact l0).length) (ys:=Lib.compact l0 ++ List.replicate (l0.length - (Lib.compact l0).length) 0) hown (by simp;omega) (by omega);rw [List.take_left] at hc;refine ⟨_,rfl,Kd.R_of_own hc (fun k hk => Or.inl (ho0.1 k hk)),Lib.below_putRow hB hbg,?_⟩;refine ⟨by simp [Sort.putRow,Sort.mapBlock,Sort.ahead],fun k hk hP => ?_⟩;have hne : g ≠ k:=fun e_ => hP (by subst e_;exact ho0.1 g rfl)
  simp [Sort.putRow,Sort.mapBlock,Sort.ahead,Array.getElem?_modify,hne]

/-! ### impl_Near: function 32 -/
def impl_Near.l0 : Nat → Int → List Int → List Int → Int → Int → Int → Int → List Int → Option (List Int)
 | 0,_,_,_,_,_,_,_,_ => none
 | k + 1,x1,x5,x25,x26,x27,x245000,x245001,x245002 => if x27 < x26 then (if 0 ≤ x27 then (if x27 < (x25.length : Int) then ((impl_IsOpen.f k x245000 x245001 x245002 (rd x25 x27)).bind fun t256 => (if t256 = true then ((impl_Apart.f k x245000 x245001 x245002 x1 (rd x25 x27)).bind fun t257 => (if t257 = 1 then (if x5.length < 17592186044416 then (impl_Near.l0 k x1 (x5 ++ [rd x25 x27]) x25 x26 (wrap64 (x27 + 1)) x245000 x245001 x245002) else (none)) else (impl_Near.l0 k x1 x5 x25 x26 (wrap64 (x27 + 1)) x245000 x245001 x245002))) else (impl_Near.l0 k x1 x5 x25 x26 (wrap64 (x27 + 1)) x245000 x245001 x245002))) else (none)) else (none)) else ((slices_Compact_int_int.f x5).bind fun t252 => (some t252))
def impl_Near.f (k : Nat) (a0_0 : Int) (a0_1 : Int) (l0_2 : List Int) (a1 : Int) : Option (List Int) := (impl_IsCell.f k a0_0 a0_1 l0_2 a1).bind fun t245 => (if t245 = true then ((some (([wrap64 (a1 - a0_0), wrap64 (a1 - 1), wrap64 (a1 + 1), wrap64 (a1 + a0_0)] : List Int) : List Int)).bind fun y249 => (impl_Near.l0 k a1 (([] : List Int)) y249 (y249.length : Int) 0 a0_0 a0_1 l0_2)) else (some ([] : List Int)))
set_option maxHeartbeats 8000000 in
set_option maxRecDepth 100000 in
theorem impl_Near.calls (k : Nat) (a0_0 : Int) (a0_1 : Int) (A0_2 : Option Addr) (c0_2 : Nat) (l0_2 : List Int) (a1 : Int) (r : List Int) (w : World) (hr0_2 : Kd.C (Kd.int .i64) w A0_2 l0_2.length l0_2) (hc0_2 : l0_2.length ≤ c0_2) (h : impl_Near.f k a0_0 a0_1 l0_2 a1 = some r) :
  Calls Try.prog 32 #[.agg #[.int .i64 a0_0,.int .i64 a0_1,.slice A0_2 l0_2.length c0_2],.int .i64 a1] w fun e w' => ∃ v0_ : Value,e = .returned (v0_) ∧ Kd.R (Kd.int .i64) 3 w' w.heap.size (fun _ => True) v0_ r ∧ Below w.heap.size w w':=by
 have hu26:=Try.underlying26;have HR0_2:=am hr0_2;have HC0_2:=am hc0_2;clear hr0_2 hc0_2;have HB:=am qq354;have H : ((impl_IsCell.f k a0_0 a0_1 l0_2 a1).bind fun t245 => (if t245 = true then ((some (([wrap64 (a1 - a0_0),wrap64 (a1 - 1),wrap64 (a1 + 1),wrap64 (a1 + a0_0)] : List Int) : List Int)).bind fun y249 => (impl_Near.l0 k a1 (([] : List Int)) y249 (y249.length : Int) 0 a0_0 a0_1 l0_2)) else (some ([] : List Int)))) = some r:=h;clear h;replace H:=bS.mp H;obtain ⟨t245,A30,H⟩:=H;replace H : (if t245 = true then ((some (([wrap64 (a1 - a0_0),wrap64 (a1 - 1),wrap64 (a1 + 1),wrap64 (a1 + a0_0)] : List Int) : List Int)).bind fun y249 => (impl_Near.l0 k a1 (([] : List Int)) y249 (y249.length : Int) 0 a0_0 a0_1 l0_2)) else (some ([] : List Int))) = some r:=H;have A3:=am A30;clear A30
 by_cases c4 : t245 = true
 ·subst c4;have H1 : ((some (([wrap64 (a1 - a0_0),wrap64 (a1 - 1),wrap64 (a1 + 1),wrap64 (a1 + a0_0)] : List Int) : List Int)).bind fun y249 => (impl_Near.l0 k a1 (([] : List Int)) y249 (y249.length : Int) 0 a0_0 a0_1 l0_2)) = some r:=by rw [if_pos rfl] at H;exact H
  clear H;have H:=H1;clear H1;obtain ⟨y246,hy246⟩ : ∃ y_ : List Int,y_ = (([] : List Int)):=⟨_,rfl⟩
  replace H : ((some (([wrap64 (a1 - a0_0),wrap64 (a1 - 1),wrap64 (a1 + 1),wrap64 (a1 + a0_0)] : List Int) : List Int)).bind fun y249 => (impl_Near.l0 k a1 y246 y249 (y249.length : Int) 0 a0_0 a0_1 l0_2)) = some r:=by first | (rw [hy246];with_reducible exact H) | (have H2_:=(Option.bind_some _ _).symm.trans H;rw [hy246];with_reducible exact H2_) | (have H2_:=(Option.bind_some _ _).symm.trans H;with_reducible exact H2_) | with_reducible exact H | (rw [hy246];exact H) | exact H
  have Ny246:=am hy246;clear hy246;obtain ⟨y249,hy249⟩ : ∃ y_ : List Int,y_ = (([wrap64 (a1 - a0_0),wrap64 (a1 - 1),wrap64 (a1 + 1),wrap64 (a1 + a0_0)] : List Int)):=⟨_,rfl⟩
  replace H : (impl_Near.l0 k a1 y246 y249 (y249.length : Int) 0 a0_0 a0_1 l0_2) = some r:=by first | (rw [hy249];with_reducible exact H) | (have H2_:=(Option.bind_some _ _).symm.trans H;rw [hy249];with_reducible exact H2_) | (have H2_:=(Option.bind_some _ _).symm.trans H;with_reducible exact H2_) | with_reducible exact H | (rw [hy249];exact H) | exact H
  have Ny249:=am hy249;clear hy249;have H':=am H;clear H
  go_enter Try.func32,Try.ntmps32
  go_wp2_with (first | ((with_reducible refine gate_dst (N:=2) rfl ?_);refine box_event ?hg (N:=2) ?hd (cs:=#[.int .i64 a0_0,.int .i64 a0_1,.slice A0_2 l0_2.length c0_2]) (t:=26) ?hr ?_;(case hd => rfl);(case hg => rfl);(case hr => exact qq261);intro gb244 hg w5 hbox hb;have BK244:=am (hbox);have GW244:=am qq344;have GE244:=am qq344;replace HB:=am qq358;clear hb hbox hg;obtain ⟨hcz6_0,hcz6_1,hcz6_2,hfz6_0,hfz6_1,hfz6_2⟩:=bcl3 BK244.out) | ((with_reducible refine gate_callee (f:=31) rfl ?_);refine goesL_ (some 10) rfl rfl Try.func31 (by kernel_rfl) rfl #[.agg #[.int .i64 a0_0,.int .i64 a0_1,.slice A0_2 l0_2.length c0_2],.int .i64 a1] rfl qq139 ?_;(with_reducible refine (impl_IsCell.calls k a0_0 a0_1 _ _ l0_2 a1 true _ ?side1 ?side2 A3.out).mono ?_);(case side1 => exact qq83);(case side2 => exact qq276);rintro e w7 ⟨rfl,hb⟩;refine ⟨_,rfl,?_⟩;replace BK244:=am qq302;replace HB:=am qq359;(try clear hb);(try clear hb2);(try clear hk);(try clear hi)) | ((with_reducible refine gate_dst (N:=12) rfl ?_);refine Kd.R_lit (Kd.int .i64) _ 3 ?hg (N:=12) ?hd (xs:=([] : List Int)) (inner:=[]) (ok:=fun _ => True) (okp:=fun _ => True) ?hr ?hp (fun _ hk => hk) trivial (Below.refl _ _) (Nat.le_refl _) (by simp) ?_;(case hd => rfl);(case hg => rfl);(case hr => exact qq261);(case hp => exact qq274);intro v247 w8 ho9 hb hg_ hnew_;clear hg_ hnew_;(first | rw [← Ny246.out] at ho9 | (simp only [Int.reduceToNat] at ho9;rw [← Ny246.out] at ho9));have HO248:=am (Kd.R_lower ho9 (below_size qq132));replace BK244:=am qq302;replace HB:=am qq359;clear hb ho9;obtain ⟨hcz10_0,hcz10_1,hcz10_2,hfz10_0,hfz10_1,hfz10_2⟩:=bcl3 BK244.out) | ((with_reducible refine gate_dst (N:=25) rfl ?_);refine Kd.R_lit (Kd.int .i64) _ 3 ?hg (N:=25) ?hd (xs:=([wrap64 (a1 - a0_0),wrap64 (a1 - 1),wrap64 (a1 + 1),wrap64 (a1 + a0_0)] : List Int)) (inner:=[.int .i64 (wrap64 (a1 - a0_0)),.int .i64 (wrap64 (a1 - 1)),.int .i64 (wrap64 (a1 + 1)),.int .i64 (wrap64 (a1 + a0_0))]) (ok:=fun _ => True) (okp:=fun _ => True) ?hr ?hp (fun _ hk => hk) trivial (Below.refl _ _) (Nat.le_refl _) (by simp) ?_;(case hd => rfl);(case hg => rfl);(case hr => exact qq261);(case hp => exact (Reps.one (show Kd.M (Kd.int .i64) _ _ _ (wrap64 (a1 - a0_0)) [.int .i64 (wrap64 (a1 - a0_0))] from rfl) (Reps.one (show Kd.M (Kd.int .i64) _ _ _ (wrap64 (a1 - 1)) [.int .i64 (wrap64 (a1 - 1))] from rfl) (Reps.one (show Kd.M (Kd.int .i64) _ _ _ (wrap64 (a1 + 1)) [.int .i64 (wrap64 (a1 + 1))] from rfl) (Reps.one (show Kd.M (Kd.int .i64) _ _ _ (wrap64 (a1 + a0_0)) [.int .i64 (wrap64 (a1 + a0_0))] from rfl) (Reps.none _ _))))));intro v250 w11 ho12 hb hg_ hnew_;clear hg_ hnew_;(first | rw [← Ny249.out] at ho12 | (simp only [Int.reduceToNat] at ho12;rw [← Ny249.out] at ho12));have HO251:=am (Kd.R_lower (Kd.R_new' ho12 (Kd.R_lt qq243)) (below_size qq132));replace HO248:=am (Kd.R_elder' qq243 (Kd.R_base ho12) hb);replace BK244:=am qq302;replace HB:=am qq359;clear hb ho12;obtain ⟨Ao13,co13,eo13⟩:=Kd.R_slice HO251.out;subst eo13))
  go_loopg [5,27] k (fun kq v5 v27 w' => ∃ (x5_1 : List Int) (x27_1 : Int),v27 = .int .i64 x27_1 ∧ Aside0 (impl_Near.l0 kq a1 x5_1 y249 (y249.length : Int) x27_1 a0_0 a0_1 l0_2 = some r) ∧ Aside0 (kq ≤ k) ∧ Aside0 (Kd.R (Kd.int .i64) 3 w' w.heap.size (fun k_ => some k_ ≠ ((.slice Ao13 y249.length co13) : Value).ownBlock) v5 x5_1) ∧ Aside0 (Kd.R (Kd.int .i64) 3 w' w.heap.size (fun k_ => some k_ ≠ (v5 : Value).ownBlock) (.slice Ao13 y249.length co13) y249) ∧ Aside0 (w'.heap[gb244]? = some (.cells #[.int .i64 a0_0,.int .i64 a0_1,(.slice A0_2 l0_2.length c0_2)] 26 (0,0))) ∧ Aside0 (Below w.heap.size w w'))
  case atStart => exact ⟨(y246),(0),qq260,H',⟨Nat.le_refl _⟩,⟨by (with_reducible repeat (first | apply kA | apply kN | apply kD));exact Kd.R_mono HO248.out (fun _ hk => hk.2)⟩,⟨by (with_reducible repeat (first | apply kA | apply kN | apply kD));exact Kd.R_mono HO251.out (fun _ hk => hk.2)⟩,⟨qq203⟩,⟨qq132⟩⟩
  case round =>
   clear H'
   try clear p2
   try clear c3
   try clear c4
   try clear p6
   try clear hcz10_0
   try clear hcz10_1
   try clear hcz10_2
   try clear hcz6_0
   try clear hcz6_1
   try clear hcz6_2
   try clear hfz10_0
   try clear hfz10_1
   try clear hfz10_2
   try clear hfz6_0
   try clear hfz6_1
   try clear hfz6_2
   obtain ⟨x5_1,x27_1,rfl,HA,HK1,HO_5,HO_25,BK244,HB⟩:=hrel
   cases gk with
   | zero => exact absurd HA.out (by simp [impl_Near.l0])
   | succ k1 =>
    have H:=HA.out;clear HA;simp only [impl_Near.l0] at H
    by_cases c14 : x27_1 < (y249.length : Int)
    ·rw [if_pos c14] at H;have c14b0 : decide (x27_1 < (y249.length : Int)) = true:=decide_eq_true c14;clear c14
     by_cases c15 : 0 ≤ x27_1
     ·rw [if_pos c15] at H;have c15b0 : decide (0 ≤ x27_1) = true:=decide_eq_true c15;clear c15
      by_cases c16 : x27_1 < (y249.length : Int)
      ·rw [if_pos c16] at H;have c16b0 : decide (x27_1 < (y249.length : Int)) = true:=decide_eq_true c16;clear c16;replace H:=bS.mp H;obtain ⟨t256,A170,H⟩:=H;replace H : (if t256 = true then ((impl_Apart.f k1 a0_0 a0_1 l0_2 a1 (rd y249 x27_1)).bind fun t257 => (if t257 = 1 then (if x5_1.length < 17592186044416 then (impl_Near.l0 k1 a1 (x5_1 ++ [rd y249 x27_1]) y249 (y249.length : Int) (wrap64 (x27_1 + 1)) a0_0 a0_1 l0_2) else (none)) else (impl_Near.l0 k1 a1 x5_1 y249 (y249.length : Int) (wrap64 (x27_1 + 1)) a0_0 a0_1 l0_2))) else (impl_Near.l0 k1 a1 x5_1 y249 (y249.length : Int) (wrap64 (x27_1 + 1)) a0_0 a0_1 l0_2)) = some r:=H;have A17:=am A170;clear A170
       by_cases c18 : t256 = true
       ·subst c18;have H1 : ((impl_Apart.f k1 a0_0 a0_1 l0_2 a1 (rd y249 x27_1)).bind fun t257 => (if t257 = 1 then (if x5_1.length < 17592186044416 then (impl_Near.l0 k1 a1 (x5_1 ++ [rd y249 x27_1]) y249 (y249.length : Int) (wrap64 (x27_1 + 1)) a0_0 a0_1 l0_2) else (none)) else (impl_Near.l0 k1 a1 x5_1 y249 (y249.length : Int) (wrap64 (x27_1 + 1)) a0_0 a0_1 l0_2))) = some r:=by rw [if_pos rfl] at H;exact H
        clear H;have H:=H1;clear H1;replace H:=bS.mp H;obtain ⟨t257,A190,H⟩:=H;replace H : (if t257 = 1 then (if x5_1.length < 17592186044416 then (impl_Near.l0 k1 a1 (x5_1 ++ [rd y249 x27_1]) y249 (y249.length : Int) (wrap64 (x27_1 + 1)) a0_0 a0_1 l0_2) else (none)) else (impl_Near.l0 k1 a1 x5_1 y249 (y249.length : Int) (wrap64 (x27_1 + 1)) a0_0 a0_1 l0_2)) = some r:=H;have A19:=am A190;clear A190
        by_cases c20 : t257 = 1
        ·rw [if_pos c20] at H;have c20b0 : (t257 == 1) = true:=beq_iff_eq.mpr c20;have c20b1 : (t257 != 1) = false:=bne_eq_false_iff_eq.mpr c20;clear c20
         by_cases c21 : x5_1.length < 17592186044416
         ·rw [if_pos c21] at H;have LMc21:=am c21;clear c21;obtain ⟨y258,hy258⟩ : ∃ y_ : List Int,y_ = (x5_1 ++ [rd y249 x27_1]):=⟨_,rfl⟩
          replace H : (impl_Near.l0 k1 a1 y258 y249 (y249.length : Int) (wrap64 (x27_1 + 1)) a0_0 a0_1 l0_2) = some r:=by first | (rw [hy258];with_reducible exact H) | (have H2_:=(Option.bind_some _ _).symm.trans H;rw [hy258];with_reducible exact H2_) | (have H2_:=(Option.bind_some _ _).symm.trans H;with_reducible exact H2_) | with_reducible exact H | (rw [hy258];exact H) | exact H
          have Ny258:=am hy258;clear hy258;have H':=am H;clear H;have p255 : 0 ≤ (x27_1 : Int):=odt qq258;have q255 : x27_1 < (y249.length : Int):=odt qq258;obtain ⟨ad255,e255,hx255_0⟩:=Kd.at_int (Kd.R_reads' HO_25.out).2.2 x27_1 p255 q255
          cases e255
          replace p255:=eq_true p255;replace q255:=eq_true q255;obtain ⟨hcz22_0,hcz22_1,hcz22_2,hfz22_0,hfz22_1,hfz22_2⟩:=bcl3 BK244.out;go_wp2_with (first | ((with_reducible refine gate_callee (f:=18) rfl ?_);refine goesL_ (some 33) rfl rfl Try.func18 (by kernel_rfl) rfl #[.agg #[.int .i64 a0_0,.int .i64 a0_1,.slice A0_2 l0_2.length c0_2],.int .i64 (rd y249 x27_1)] rfl qq139 ?_;(with_reducible refine (impl_IsOpen.calls k1 a0_0 a0_1 _ _ l0_2 (rd y249 x27_1) true _ ?side1 ?side2 A17.out).mono ?_);(case side1 => exact qq83);(case side2 => exact qq276);rintro e w23 ⟨rfl,hb⟩;refine ⟨_,rfl,?_⟩;replace HO_5:=am qq360;replace HO_25:=am (Kd.R_below qq223 hb);replace BK244:=am qq302;replace HB:=am qq359;(try clear hb);(try clear hb2);(try clear hk);(try clear hi);obtain ⟨hcz24_0,hcz24_1,hcz24_2,hfz24_0,hfz24_1,hfz24_2⟩:=bcl3 BK244.out) | (go_at_call 44;(with_reducible refine (impl_Apart.calls k1 a0_0 a0_1 _ _ l0_2 a1 (rd y249 x27_1) t257 _ ?side1 ?side2 A19.out).mono ?_);(case side1 => exact qq83);(case side2 => exact qq276);rintro e w25 ⟨rfl,hb⟩;replace HO_5:=am qq360;replace HO_25:=am (Kd.R_below qq223 hb);replace BK244:=am qq302;replace HB:=am qq359;(try clear hb);(try clear hb2);(try clear hk);(try clear hi)) | ((with_reducible refine gate_builtin (b:=.append) (xs:=#[.tmp 41,.tmp 43]) rfl ?_);at_builtin;refine Kd.R_append (Kd.int .i64) (w0:=w) w.heap.size rfl (.tmp 41) (.tmp 43) 24 3 (.int .i64 0) 8 rfl Try.underlying24 info3 rfl (by decide) (by omega) u5 x5_1 (rd y249 x27_1) [.int .i64 (rd y249 x27_1)] (fun k_ => some k_ ≠ (.slice (some ad255) y249.length co13 : Value).ownBlock) (fun _ => False) rfl rfl ?aP (fun _ hk => hk.elim) ?aF ?aO ?aB ?aS ?aL ?_;(case aP => exact rfl);(case aB => exact qq132);(case aF => exact (fun k_ hk => Kd.fresh' (Kd.R_lt qq223) k_ hk));(case aO => exact qq220);(case aS => exact (below_size qq132));(case aL => have:=LMc21.out;omega);intro v259 w26 ho hb hg hat;rw [← Ny258.out] at ho;replace HO_25:=am (Kd.R_after (ok:=(fun _ => True)) (by (with_reducible repeat (first | apply kA | apply kN | apply kD));exact Kd.R_mono HO_25.out (fun _ hk => ⟨trivial,hk⟩)) hg hat);replace BK244:=am (blk_grown (g:=gb244) (o:=.cells #[.int .i64 a0_0,.int .i64 a0_1,.slice A0_2 l0_2.length c0_2] 26 (0,0)) qq203 hg (Kd.R_ne HO_5.out BK244.out (by decide)));replace HB:=am (hb);have HO260:=am (ho);clear HO_5;clear ho hb hg hat))
          go_roundg k1
          case measure => have:=HK1.out;omega
          case rel => exact ⟨(y258),(wrap64 (x27_1 + 1)),qq260,H',⟨qq275⟩,⟨by (with_reducible repeat (first | apply kA | apply kN | apply kD));exact HO260.out⟩,⟨by (with_reducible repeat (first | apply kA | apply kN | apply kD));exact Kd.R_mono HO_25.out (fun _ hk => hk.2)⟩,⟨qq203⟩,⟨qq132⟩⟩
         ·rw [if_neg c21] at H;exact absurd H (by simp)
        ·rw [if_neg c20] at H;have c20b0 : (t257 == 1) = false:=beq_eq_false_iff_ne.mpr c20;have c20b1 : (t257 != 1) = true:=bne_iff_ne.mpr c20;have H':=am H;clear H;have p255 : 0 ≤ (x27_1 : Int):=odt qq258;have q255 : x27_1 < (y249.length : Int):=odt qq258;obtain ⟨ad255,e255,hx255_0⟩:=Kd.at_int (Kd.R_reads' HO_25.out).2.2 x27_1 p255 q255
         cases e255
         replace p255:=eq_true p255;replace q255:=eq_true q255;obtain ⟨hcz27_0,hcz27_1,hcz27_2,hfz27_0,hfz27_1,hfz27_2⟩:=bcl3 BK244.out;go_wp2_with (first | ((with_reducible refine gate_callee (f:=18) rfl ?_);refine goesL_ (some 33) rfl rfl Try.func18 (by kernel_rfl) rfl #[.agg #[.int .i64 a0_0,.int .i64 a0_1,.slice A0_2 l0_2.length c0_2],.int .i64 (rd y249 x27_1)] rfl qq139 ?_;(with_reducible refine (impl_IsOpen.calls k1 a0_0 a0_1 _ _ l0_2 (rd y249 x27_1) true _ ?side1 ?side2 A17.out).mono ?_);(case side1 => exact qq83);(case side2 => exact qq276);rintro e w28 ⟨rfl,hb⟩;refine ⟨_,rfl,?_⟩;replace HO_5:=am qq360;replace HO_25:=am (Kd.R_below qq223 hb);replace BK244:=am qq302;replace HB:=am qq359;(try clear hb);(try clear hb2);(try clear hk);(try clear hi);obtain ⟨hcz29_0,hcz29_1,hcz29_2,hfz29_0,hfz29_1,hfz29_2⟩:=bcl3 BK244.out) | (go_at_call 44;(with_reducible refine (impl_Apart.calls k1 a0_0 a0_1 _ _ l0_2 a1 (rd y249 x27_1) t257 _ ?side1 ?side2 A19.out).mono ?_);(case side1 => exact qq83);(case side2 => exact qq276);rintro e w30 ⟨rfl,hb⟩;replace HO_5:=am qq360;replace HO_25:=am (Kd.R_below qq223 hb);replace BK244:=am qq302;replace HB:=am qq359;(try clear hb);(try clear hb2);(try clear hk);(try clear hi)))
         go_roundg k1
         case measure => have:=HK1.out;omega
         case rel => exact ⟨(x5_1),(wrap64 (x27_1 + 1)),qq260,H',⟨qq275⟩,⟨qq251⟩,⟨qq223⟩,⟨qq203⟩,⟨qq132⟩⟩
       ·replace c18:=Bool.eq_false_iff.mpr c18;subst c18;have H1 : (impl_Near.l0 k1 a1 x5_1 y249 (y249.length : Int) (wrap64 (x27_1 + 1)) a0_0 a0_1 l0_2) = some r:=by rw [if_neg (show ¬ (false = true) by decide)] at H;exact H
        clear H;have H:=H1;clear H1;have H':=am H;clear H;have p255 : 0 ≤ (x27_1 : Int):=odt qq258;have q255 : x27_1 < (y249.length : Int):=odt qq258;obtain ⟨ad255,e255,hx255_0⟩:=Kd.at_int (Kd.R_reads' HO_25.out).2.2 x27_1 p255 q255
        cases e255
        replace p255:=eq_true p255;replace q255:=eq_true q255;obtain ⟨hcz31_0,hcz31_1,hcz31_2,hfz31_0,hfz31_1,hfz31_2⟩:=bcl3 BK244.out;go_wp2_with (first | ((with_reducible refine gate_callee (f:=18) rfl ?_);refine goesL_ (some 33) rfl rfl Try.func18 (by kernel_rfl) rfl #[.agg #[.int .i64 a0_0,.int .i64 a0_1,.slice A0_2 l0_2.length c0_2],.int .i64 (rd y249 x27_1)] rfl qq139 ?_;(with_reducible refine (impl_IsOpen.calls k1 a0_0 a0_1 _ _ l0_2 (rd y249 x27_1) false _ ?side1 ?side2 A17.out).mono ?_);(case side1 => exact qq83);(case side2 => exact qq276);rintro e w32 ⟨rfl,hb⟩;refine ⟨_,rfl,?_⟩;replace HO_5:=am qq360;replace HO_25:=am (Kd.R_below qq223 hb);replace BK244:=am qq302;replace HB:=am qq359;(try clear hb);(try clear hb2);(try clear hk);(try clear hi)))
        go_roundg k1
        case measure => have:=HK1.out;omega
        case rel => exact ⟨(x5_1),(wrap64 (x27_1 + 1)),qq260,H',⟨qq275⟩,⟨qq251⟩,⟨qq223⟩,⟨qq203⟩,⟨qq132⟩⟩
      ·rw [if_neg c16] at H;exact absurd H (by simp)
     ·rw [if_neg c15] at H;exact absurd H (by simp)
    ·rw [if_neg c14] at H;have c14b0 : decide (x27_1 < (y249.length : Int)) = false:=decide_eq_false c14;clear c14;replace H:=bS.mp H;obtain ⟨t252,A330,H⟩:=H;replace H : (some t252) = some r:=H;have A33:=am A330;clear A330;obtain rfl:=Option.some.inj H;obtain ⟨Ao34,co34,eo34⟩:=Kd.R_slice HO_5.out;subst eo34;go_wp2_with (first | ((with_reducible refine gate_callee (f:=45) rfl ?_);refine goesL_ (some 47) rfl rfl Try.func45 (by kernel_rfl) rfl #[.slice Ao34 x5_1.length co34] rfl qq139 ?_;(with_reducible refine (slices_Compact_int_int.calls (fun k_ => some k_ = (.slice Ao34 x5_1.length co34 : Value).ownBlock) (.slice Ao34 x5_1.length co34) x5_1 t252 w _ ?side1 ?side2 A33.out).mono ?_);(case side1 => exact qq132);(case side2 => exact Kd.R_tight rfl HO_5.out);rintro e w35 ⟨v253,rfl,ho0,hb,hkp⟩;refine ⟨_,rfl,?_⟩;replace BK244:=am (blk_kept qq203 hkp (fun hs_ => (fun e_ => (Kd.R_ne HO_5.out BK244.out (by decide)) e_) hs_));have HO254:=am (Kd.R_mono (ok':=fun k_ => some k_ ≠ (.slice Ao13 y249.length co13 : Value).ownBlock) ho0 (fun k_ hk_ => Or.elim hk_ (fun hs_ => fun e_ => (((HO_25.out).1 k_ e_.symm)) hs_) (fun hn_ => (Kd.fresh' (Kd.R_lt qq223) k_ hn_))));replace HO_25:=am (Kd.R_mono (ok':=fun k_ => some k_ ≠ (v253 : Value).ownBlock) (Kd.R_keptB (HO_25.out) hkp (fun k_ hk_ hs_ => (hk_) hs_)) (fun k_ hk_ => fun e_ => Or.elim (ho0.1 k_ e_.symm) (fun hs_ => hk_.2.1 hs_) (fun hn_ => Nat.not_le.2 hk_.2.2 hn_)));replace HB:=am (hb);clear HO_5;(try clear hb);(try clear hkp);(try clear ho0)))
     go_ret
     exact ⟨_,qq216,by (with_reducible repeat (first | apply kA | apply kN | apply kD));exact Kd.R_mono HO254.out (fun _ hk => trivial),qq132⟩
 ·replace c4:=Bool.eq_false_iff.mpr c4;subst c4;have H1 : (some ([] : List Int)) = some r:=by rw [if_neg (show ¬ (false = true) by decide)] at H;exact H
  clear H;have H:=H1;clear H1;obtain rfl:=Option.some.inj H
  go_enter Try.func32,Try.ntmps32
  go_wp2_with (first | ((with_reducible refine gate_dst (N:=2) rfl ?_);refine box_event ?hg (N:=2) ?hd (cs:=#[.int .i64 a0_0,.int .i64 a0_1,.slice A0_2 l0_2.length c0_2]) (t:=26) ?hr ?_;(case hd => rfl);(case hg => rfl);(case hr => exact qq261);intro gb244 hg w36 hbox hb;have BK244:=am (hbox);have GW244:=am qq344;have GE244:=am qq344;replace HB:=am qq358;clear hb hbox hg;obtain ⟨hcz37_0,hcz37_1,hcz37_2,hfz37_0,hfz37_1,hfz37_2⟩:=bcl3 BK244.out) | ((with_reducible refine gate_callee (f:=31) rfl ?_);refine goesL_ (some 10) rfl rfl Try.func31 (by kernel_rfl) rfl #[.agg #[.int .i64 a0_0,.int .i64 a0_1,.slice A0_2 l0_2.length c0_2],.int .i64 a1] rfl qq139 ?_;(with_reducible refine (impl_IsCell.calls k a0_0 a0_1 _ _ l0_2 a1 false _ ?side1 ?side2 A3.out).mono ?_);(case side1 => exact qq83);(case side2 => exact qq276);rintro e w38 ⟨rfl,hb⟩;refine ⟨_,rfl,?_⟩;replace BK244:=am qq302;replace HB:=am qq359;(try clear hb);(try clear hb2);(try clear hk);(try clear hi)))
  go_ret
  exact ⟨_,qq216,qq105,qq132⟩

end Go.Proofs.Ytimpjccgnkbgmaa.PFnSearch
