/- Contracts of functions that the law FnExactPlanFood reaches, for its row: lines that the kit's printer wrote for this claim, set shorter by a program of this session (own.py), and what fell in Lean proved anew. Lean checks them. -/
import Derived.Test.YtcbkknpmeknppaaSFnExactPlanFoodx0
import Derived.Test.YtcbkknpmeknppaaSFnExactPlanFoodx10
import Derived.Test.YtcbkknpmeknppaaSFnExactPlanFoodx12
namespace Go.Proofs.Ytcbkknpmeknppaa.PFnExactPlanFood
open Go.RowKit Go.Proofs.YtcbkknpmeknppaaW.PrintWords Go.Proofs.YtcbkknpmeknppaaW.PrintLast Go.Proofs.YtcbkknpmeknppaaW.PrintMore
attribute [local go_sem] max2_int min2_int max_two min_two max_three min_three max_four min_four   -- for this text's walks alone
set_option linter.unusedVariables false
set_option linter.unusedSimpArgs false

abbrev m0_13 : Array Bool := #[Z,Z,Z,Z,Z,Z,Z,Z,Z,Z,Z,Z,Z,Z,Z,Z,Z,Z]
abbrev m1_13 : Array Bool := #[Z,Y,Z,Z,Z,Z,Z,Z,Z,Z,Z,Z,Z,Z,Z,Z,Z,Z]
abbrev m2_13 : Array Bool := #[Z,Y,Y,Z,Z,Z,Z,Z,Z,Z,Z,Z,Z,Z,Z,Z,Z,Z]
abbrev m3_13 : Array Bool := #[Z,Y,Y,Y,Z,Z,Z,Z,Z,Z,Z,Z,Z,Z,Z,Z,Z,Z]
abbrev m4_13 : Array Bool := #[Z,Y,Y,Y,Y,Z,Z,Z,Z,Z,Z,Z,Z,Z,Z,Z,Z,Z]
abbrev m5_13 : Array Bool := #[Z,Y,Y,Y,Y,Y,Z,Z,Z,Z,Z,Z,Z,Z,Z,Z,Z,Z]
abbrev m6_13 : Array Bool := #[Y,Y,Y,Y,Y,Y,Z,Z,Z,Z,Z,Z,Z,Z,Z,Z,Z,Z]
abbrev m7_13 : Array Bool := #[Y,Y,Y,Y,Y,Y,Y,Z,Z,Z,Z,Z,Z,Z,Z,Z,Z,Z]
abbrev m8_13 : Array Bool := #[Y,Y,Y,Y,Y,Y,Y,Y,Z,Z,Z,Z,Z,Z,Z,Z,Z,Z]
abbrev m9_13 : Array Bool := #[Y,Y,Y,Y,Y,Y,Y,Y,Y,Z,Z,Z,Z,Z,Z,Z,Z,Z]
abbrev m10_13 : Array Bool := #[Y,Y,Y,Y,Y,Y,Y,Y,Y,Y,Z,Z,Z,Z,Z,Z,Z,Z]
abbrev m11_13 : Array Bool := #[Y,Y,Y,Y,Y,Y,Y,Y,Y,Y,Y,Z,Z,Z,Z,Z,Z,Z]
abbrev m12_13 : Array Bool := #[Y,Y,Y,Y,Y,Y,Y,Y,Y,Y,Y,Y,Z,Z,Z,Z,Z,Z]
abbrev m13_13 : Array Bool := #[Y,Y,Y,Y,Y,Y,Y,Y,Y,Y,Y,Y,Y,Z,Z,Z,Z,Z]
abbrev m14_13 : Array Bool := #[Y,Y,Y,Y,Y,Y,Y,Y,Y,Y,Y,Y,Y,Y,Z,Z,Z,Z]
abbrev m15_13 : Array Bool := #[Y,Y,Y,Y,Y,Y,Y,Y,Y,Y,Y,Y,Y,Y,Y,Z,Z,Z]
abbrev m16_13 : Array Bool := #[Y,Y,Y,Y,Y,Y,Y,Y,Y,Y,Y,Y,Y,Y,Y,Y,Z,Z]
abbrev m17_13 : Array Bool := #[Y,Y,Y,Y,Y,Y,Y,Y,Y,Y,Y,Y,Y,Y,Y,Y,Y,Z]
abbrev m18_13 : Array Bool := #[Y,Y,Y,Y,Y,Y,Y,Y,Y,Y,Y,Y,Y,Y,Y,Y,Y,Y]
/-! ### spec_IsPlan: function 55 -/
def spec_IsPlan.l0 : Nat → Int → List (S76) → Int → Int → Int → Int → List Int → Option (Bool)
 | 0,_,_,_,_,_,_,_ => none
 | k + 1,x1,x2,x7,x8,x395000,x395001,x395002 => if x8 < (x2.length : Int) then (if 0 ≤ x8 then ((spec_Days.f k x395000 x395001 x395002 x7 ((rd_T76 x2 x8).f0)).bind fun t397 => (if t397 < 0 then (some false) else ((spec_l1In.f ((rd_T76 x2 x8).f1) 0 30).bind fun t399 => (if t399 = true then (spec_IsPlan.l0 k x1 x2 ((rd_T76 x2 x8).f0) (wrap64 (x8 + 1)) x395000 x395001 x395002) else (some false))))) else (none)) else ((spec_IsOpen.f k x395000 x395001 x395002 x1).bind fun t395 => (if t395 = true then (some (decide ((x2.length : Int) ≤ 10))) else (some false)))
def spec_IsPlan.f (k : Nat) (a0_0 : Int) (a0_1 : Int) (l0_2 : List Int) (a1 : Int) (l2 : List (S76)) : Option (Bool) := spec_IsPlan.l0 k a1 l2 a1 0 a0_0 a0_1 l0_2
def spec_IsPlan.T5 : Bool × List (List Nat × List Nat) := (true, [([], []), ([], []), ([], []), ([], []), ([2, 3], [2, 3]), ([4], [4]), ([5], [5]), ([0, 1, 6], [0, 1, 6]), ([7], [7]), ([8, 7], [8]), ([9], [9]), ([9], [9]), ([10, 11, 9], [9, 10, 11]), ([12, 9], [9, 12]), ([13, 9], [9, 13]), ([14, 9, 9], [9, 14]), ([15, 9], [9, 15]), ([9, 16], [9, 16])])
def spec_IsPlan.B5 : List Nat := [0, 0, 0, 0, 12, 28, 60, 127, 255, 511, 1023, 1023, 4095, 8191, 16383, 32767, 65535, 131071]
theorem spec_IsPlan.tab5 : rtab .any (opsOf Try.f55 5) = spec_IsPlan.T5 := by kernel_rfl
theorem spec_IsPlan.bits5 : waitsOk spec_IsPlan.T5.2 spec_IsPlan.B5 = true := by kernel_rfl
set_option maxHeartbeats 8000000 in
set_option maxRecDepth 100000 in
theorem spec_IsPlan.calls (k : Nat) (a0_0 : Int) (a0_1 : Int) (A0_2 : Option Addr) (c0_2 : Nat) (l0_2 : List Int) (a1 : Int) (A2 : Option Addr) (c2 : Nat) (l2 : List (S76)) (r : Bool) (w : World) (hr0_2 : Kd.C (Kd.int .i64) w A0_2 l0_2.length l0_2) (hc0_2 : l0_2.length ≤ c0_2) (hr2 : Kd.C k76 w A2 l2.length l2) (hc2 : l2.length ≤ c2) (h : spec_IsPlan.f k a0_0 a0_1 l0_2 a1 l2 = some r) :
  Calls Try.prog 55 #[.agg #[.int .i64 a0_0,.int .i64 a0_1,.slice A0_2 l0_2.length c0_2],.int .i64 a1,.slice A2 l2.length c2] w fun e w' => e = .returned (.bool r) ∧ Below w.heap.size w w':=by
 have hu51:=Try.underlying51;have HR0_2:=am hr0_2;have HC0_2:=am hc0_2;clear hr0_2 hc0_2;have HR2:=am hr2;have HC2:=am hc2;clear hr2 hc2;have HB:=am qq465;have H : (spec_IsPlan.l0 k a1 l2 a1 0 a0_0 a0_1 l0_2) = some r:=h;clear h;have H':=am H;clear H
 go_enter Try.func55,Try.ntmps55
 go_wp2_with (first | ((with_reducible refine gate_dst (N:=3) rfl ?_);(try (refine gate_guard (by rfl) ?_;dsimp only));refine box_event ?hg (N:=3) ?hd (cs:=#[.int .i64 a0_0,.int .i64 a0_1,.slice A0_2 l0_2.length c0_2]) (t:=51) ?hr ?_;(case hd => rfl);(case hg => rfl);(case hr => exact qq312);intro gb394 hg w4 hbox hb;have BK394:=am (hbox);have GW394:=am ((qq144 : w.heap.size ≤ gb394));have GE394:=am ((qq144 : w.heap.size ≤ gb394));replace HB:=am qq488;clear hb hbox hg))
 go_loopg [7,8] k (fun kq v7 v8 w' => ∃ (x7_1 : Int) (x8_1 : Int),v7 = .int .i64 x7_1 ∧ v8 = .int .i64 x8_1 ∧ Aside0 (spec_IsPlan.l0 kq a1 l2 x7_1 x8_1 a0_0 a0_1 l0_2 = some r) ∧ Aside0 (kq ≤ k) ∧ Aside0 (w'.heap[gb394]? = some (.cells #[.int .i64 a0_0,.int .i64 a0_1,(.slice A0_2 l0_2.length c0_2)] 51 (0,0))) ∧ Aside0 (Below w.heap.size w w'))
 case atStart => exact ⟨(a1),(0),qq311,qq311,H',⟨Nat.le_refl _⟩,⟨qq233⟩,⟨qq158⟩⟩
 case round =>
  clear H'
  try clear c2
  try clear p2
  obtain ⟨x7_1,x8_1,rfl,rfl,HA,HK1,BK394,HB⟩:=hrel
  cases gk with
  | zero => exact absurd HA.out (by simp [spec_IsPlan.l0])
  | succ k1 =>
   have H:=HA.out;clear HA;simp only [spec_IsPlan.l0] at H
   by_cases c5 : x8_1 < (l2.length : Int)
   ·rw [if_pos c5] at H;have c5b0 : decide (x8_1 < (l2.length : Int)) = true:=decide_eq_true c5;clear c5
    by_cases c6 : 0 ≤ x8_1
    ·rw [if_pos c6] at H;have c6b0 : decide (0 ≤ x8_1) = true:=decide_eq_true c6;clear c6;replace H:=bS.mp H;obtain ⟨t397,A70,H⟩:=H;(try dsimp only at H);have A7:=am A70;clear A70
     by_cases c8 : t397 < 0
     ·rw [if_pos c8] at H;have c8b0 : decide (t397 < 0) = true:=decide_eq_true c8;clear c8;obtain rfl:=Option.some.inj H
      try go_wp2
      replace BK394:=am (blk_drew BK394.out);replace HB:=am qq519;have p396 : 0 ≤ (x8_1 : Int):=odt qq309;have q396 : x8_1 < (l2.length : Int):=odt qq309;obtain ⟨ad396,e396,hx396_0,hx396_1⟩:=at_T76 HR2.out x8_1 p396 q396;have hw396_1:=hx396_1;have hw396_0:=hx396_0
      cases e396
      replace hx396_0:=(ct HB.out hx396_0 :)
      replace hx396_1:=(ct HB.out hx396_1 :)
      replace p396:=eq_true p396;replace q396:=eq_true q396;refine start_ (n:=18) (S:=fun w' => w'.cell? ⟨gb394,0,none⟩ = some (.int .i64 a0_0) ∧ w'.cell? ⟨gb394,1,none⟩ = some (.int .i64 a0_1) ∧ w'.cell? ⟨gb394,2,none⟩ = some (.slice A0_2 l0_2.length c0_2) ∧ w'.cell? (ad396.add ((x8_1).toNat * 2)) = some (.int .i64 ((rd_T76 l2 x8_1).f0)) ∧ w'.cell? ⟨(ad396.add ((x8_1).toNat * 2)).block,(ad396.add ((x8_1).toNat * 2)).off + 1,none⟩ = some (.int .i64 ((rd_T76 l2 x8_1).f1))) (ds:=[]) m0_13 (by kernel_rfl) rfl rfl ⟨(blk_cell BK394.out 0).trans rfl,(blk_cell BK394.out 1).trans rfl,(blk_cell BK394.out 2).trans rfl,(ct HB.out hw396_0 :),(ct HB.out hw396_1 :)⟩ (fun hHeld => ?_);refine with_tabW spec_IsPlan.tab5 spec_IsPlan.bits5 (fun HT_ HW_ => ?_)
      generalize wr.drew = w9 at BK394 HB hx396_0 hx396_1 hHeld ⊢
      refine pV (i:=1) (N:=some 17) m1_13 rfl rfl qT ?_
      refine pV (i:=2) (N:=some 18) m2_13 rfl rfl qT ?_
      refine pV (i:=3) (N:=some 19) m3_13 rfl rfl qT ?_
      refine pV (i:=4) (N:=some 20) m4_13 rfl rfl qT ?_
      refine pV (i:=5) (N:=some 21) m5_13 rfl rfl qT ?_
      refine tV5 (i:=0) (N:=some 16) m6_13 rfl rfl (take_ofW HT_.out HW_.out (by kernel_rfl)) hHeld ?_
      refine tV5 (i:=6) (N:=some 22) m7_13 rfl rfl (take_ofW HT_.out HW_.out (by kernel_rfl)) hHeld ?_
      refine one_ (i:=7) (N:=some 23) m8_13 rfl rfl (one_of HT_.out (by kernel_rfl)) (by decide) (fun K hK => ?_);refine goes_ Try.func103 (by kernel_rfl) rfl #[.agg #[.int .i64 a0_0,.int .i64 a0_1,.slice A0_2 l0_2.length c0_2],.int .i64 x7_1,.int .i64 ((rd_T76 l2 x8_1).f0)] (by rfl) rfl rfl qq187 ?_;with_reducible refine (spec_Days.calls k1 a0_0 a0_1 _ _ l0_2 x7_1 ((rd_T76 l2 x8_1).f0) t397 _ ?side1 ?side2 A7.out).mono ?_
      (case side1 => exact qq117);(case side2 => exact qq334)
      rintro e w10 ⟨rfl,hb⟩
      refine ⟨_,rfl,?_⟩;replace BK394:=am qq383;replace HB:=am (below_step qq158 hb);(try clear hb);(try clear hb2);(try clear hk);(try clear hi);refine hK.out _ _ ⟨(blk_cell BK394.out 0).trans rfl,(blk_cell BK394.out 1).trans rfl,(blk_cell BK394.out 2).trans rfl,(ct HB.out hw396_0 :),(ct HB.out hw396_1 :)⟩ (fun hHeld => ?_);clear hK K;refine norm_ (a':=?_) ?_ ?_;rotate_left
      ·show Act.put _ (some 23) _ = _
       simp only [Act.put,sA,s0,s1,i64_w,i32_w];rfl
      refine pV (i:=8) (N:=some 24) m9_13 rfl rfl qT ?_
      refine pV (i:=9) (N:=some 25) m10_13 rfl rfl qT ?_
      refine pW (i:=10) (N:=some 26) m11_13 rfl rfl qT ?_
      refine pW (i:=11) (N:=some 27) m12_13 rfl rfl qT ?_
      refine pW (i:=12) (N:=some 28) m13_13 rfl rfl qT ?_
      refine pW (i:=13) (N:=some 29) m14_13 rfl rfl qT ?_
      refine pW (i:=14) (N:=some 30) m15_13 rfl rfl qT ?_
      refine pW (i:=15) (N:=some 31) m16_13 rfl rfl qT ?_
      refine pW (i:=16) (N:=some 32) m17_13 rfl rfl qT ?_
      refine pV (i:=17) (N:=some 33) m18_13 rfl rfl qT ?_
      refine done_ (done_of HT_.out (by kernel_rfl)) ?_
      try go_wp2
      go_ret
      exact ⟨qq263,qq158⟩
     ·rw [if_neg c8] at H;have c8b0 : decide (t397 < 0) = false:=decide_eq_false c8;clear c8;replace H:=bS.mp H;obtain ⟨t399,A110,H⟩:=H;(try dsimp only at H);have A11:=am A110;clear A110
      by_cases c12 : t399 = true
      ·subst c12;rw [if_pos rfl] at H;have H':=am H;clear H
       try go_wp2
       replace BK394:=am (blk_drew BK394.out);replace HB:=am qq519;have p396 : 0 ≤ (x8_1 : Int):=odt qq309;have q396 : x8_1 < (l2.length : Int):=odt qq309;obtain ⟨ad396,e396,hx396_0,hx396_1⟩:=at_T76 HR2.out x8_1 p396 q396;have hw396_1:=hx396_1;have hw396_0:=hx396_0
       cases e396
       replace hx396_0:=(ct HB.out hx396_0 :)
       replace hx396_1:=(ct HB.out hx396_1 :)
       replace p396:=eq_true p396;replace q396:=eq_true q396;have p398 : 0 ≤ (x8_1 : Int):=odt qq309;have q398 : x8_1 < (l2.length : Int):=odt qq309;obtain ⟨ad398,e398,hx398_0,hx398_1⟩:=at_T76 HR2.out x8_1 p398 q398;have hw398_1:=hx398_1;have hw398_0:=hx398_0;obtain rfl : ad396 = ad398:=(by injection e398)
       replace hx398_0:=(ct HB.out hx398_0 :)
       replace hx398_1:=(ct HB.out hx398_1 :)
       replace p398:=eq_true p398;replace q398:=eq_true q398;refine start_ (n:=18) (S:=fun w' => w'.cell? ⟨gb394,0,none⟩ = some (.int .i64 a0_0) ∧ w'.cell? ⟨gb394,1,none⟩ = some (.int .i64 a0_1) ∧ w'.cell? ⟨gb394,2,none⟩ = some (.slice A0_2 l0_2.length c0_2) ∧ w'.cell? (ad396.add ((x8_1).toNat * 2)) = some (.int .i64 ((rd_T76 l2 x8_1).f0)) ∧ w'.cell? ⟨(ad396.add ((x8_1).toNat * 2)).block,(ad396.add ((x8_1).toNat * 2)).off + 1,none⟩ = some (.int .i64 ((rd_T76 l2 x8_1).f1)) ∧ w'.cell? (ad396.add ((x8_1).toNat * 2)) = some (.int .i64 ((rd_T76 l2 x8_1).f0)) ∧ w'.cell? ⟨(ad396.add ((x8_1).toNat * 2)).block,(ad396.add ((x8_1).toNat * 2)).off + 1,none⟩ = some (.int .i64 ((rd_T76 l2 x8_1).f1))) (ds:=[]) m0_13 (by kernel_rfl) rfl rfl ⟨(blk_cell BK394.out 0).trans rfl,(blk_cell BK394.out 1).trans rfl,(blk_cell BK394.out 2).trans rfl,(ct HB.out hw396_0 :),(ct HB.out hw396_1 :),(ct HB.out hw398_0 :),(ct HB.out hw398_1 :)⟩ (fun hHeld => ?_);refine with_tabW spec_IsPlan.tab5 spec_IsPlan.bits5 (fun HT_ HW_ => ?_)
       generalize wr.drew = w13 at BK394 HB hx396_0 hx396_1 hx398_0 hx398_1 hHeld ⊢
       refine pV (i:=1) (N:=some 17) m1_13 rfl rfl qT ?_
       refine pV (i:=2) (N:=some 18) m2_13 rfl rfl qT ?_
       refine pV (i:=3) (N:=some 19) m3_13 rfl rfl qT ?_
       refine pV (i:=4) (N:=some 20) m4_13 rfl rfl qT ?_
       refine pV (i:=5) (N:=some 21) m5_13 rfl rfl qT ?_
       refine tV7 (i:=0) (N:=some 16) m6_13 rfl rfl (take_ofW HT_.out HW_.out (by kernel_rfl)) hHeld ?_
       refine tV7 (i:=6) (N:=some 22) m7_13 rfl rfl (take_ofW HT_.out HW_.out (by kernel_rfl)) hHeld ?_
       refine one_ (i:=7) (N:=some 23) m8_13 rfl rfl (one_of HT_.out (by kernel_rfl)) (by decide) (fun K hK => ?_);refine goes_ Try.func103 (by kernel_rfl) rfl #[.agg #[.int .i64 a0_0,.int .i64 a0_1,.slice A0_2 l0_2.length c0_2],.int .i64 x7_1,.int .i64 ((rd_T76 l2 x8_1).f0)] (by rfl) rfl rfl qq187 ?_;with_reducible refine (spec_Days.calls k1 a0_0 a0_1 _ _ l0_2 x7_1 ((rd_T76 l2 x8_1).f0) t397 _ ?side1 ?side2 A7.out).mono ?_
       (case side1 => exact qq117);(case side2 => exact qq334)
       rintro e w14 ⟨rfl,hb⟩
       refine ⟨_,rfl,?_⟩;replace BK394:=am qq383;replace HB:=am (below_step qq158 hb);(try clear hb);(try clear hb2);(try clear hk);(try clear hi);refine hK.out _ _ ⟨(blk_cell BK394.out 0).trans rfl,(blk_cell BK394.out 1).trans rfl,(blk_cell BK394.out 2).trans rfl,(ct HB.out hw396_0 :),(ct HB.out hw396_1 :),(ct HB.out hw398_0 :),(ct HB.out hw398_1 :)⟩ (fun hHeld => ?_);clear hK K;refine norm_ (a':=?_) ?_ ?_;rotate_left
       ·show Act.put _ (some 23) _ = _
        simp only [Act.put,sA,s0,s1,i64_w,i32_w];rfl
       refine pV (i:=8) (N:=some 24) m9_13 rfl rfl qT ?_
       refine pV (i:=9) (N:=some 25) m10_13 rfl rfl qT ?_
       refine pV (i:=10) (N:=some 26) m11_13 rfl rfl qT ?_
       refine pV (i:=11) (N:=some 27) m12_13 rfl rfl qT ?_
       refine pV (i:=12) (N:=some 28) m13_13 rfl rfl qT ?_
       refine pV (i:=13) (N:=some 29) m14_13 rfl rfl qT ?_
       refine tV7 (i:=14) (N:=some 30) m15_13 rfl rfl (take_ofW HT_.out HW_.out (by kernel_rfl)) hHeld ?_
       refine one_ (i:=15) (N:=some 31) m16_13 rfl rfl (one_of HT_.out (by kernel_rfl)) (by decide) (fun K hK => ?_);refine goes_ Try.func104 (by kernel_rfl) rfl #[.int .i64 ((rd_T76 l2 x8_1).f1),.int .i64 0,.int .i64 30] (by rfl) rfl rfl qq187 ?_;with_reducible refine (spec_l1In.calls ((rd_T76 l2 x8_1).f1) 0 30 true _ A11.out).mono ?_
       rintro e w' ⟨rfl,⟨nd,rfl⟩⟩
       refine ⟨_,rfl,?_⟩;refine hK.out _ _ ⟨(blk_cell BK394.out 0).trans rfl,(blk_cell BK394.out 1).trans rfl,(blk_cell BK394.out 2).trans rfl,(ct HB.out hw396_0 :),(ct HB.out hw396_1 :),(ct HB.out hw398_0 :),(ct HB.out hw398_1 :)⟩ (fun hHeld => ?_);clear hK K;refine norm_ (a':=?_) ?_ ?_;rotate_left
       ·show Act.put _ (some 31) _ = _
        simp only [Act.put,sA,s0,s1,i64_w,i32_w];rfl
       refine pV (i:=16) (N:=some 32) m17_13 rfl rfl qT ?_
       refine pV (i:=17) (N:=some 33) m18_13 rfl rfl qT ?_
       refine done_ (done_of HT_.out (by kernel_rfl)) ?_;have p400 : 0 ≤ (x8_1 : Int):=odt qq309;have q400 : x8_1 < (l2.length : Int):=odt qq309;obtain ⟨ad400,e400,hx400_0,hx400_1⟩:=at_T76 HR2.out x8_1 p400 q400;obtain rfl : ad396 = ad400:=(by injection e400)
       replace hx400_0:=(ct HB.out hx400_0 :)
       replace hx400_1:=(ct HB.out hx400_1 :)
       replace p400:=eq_true p400;replace q400:=eq_true q400
       try go_wp2
       go_roundg k1
       case measure => have:=HK1.out;omega
       case rel => exact ⟨((rd_T76 l2 x8_1).f0),(wrap64 (x8_1 + 1)),qq311,qq311,H',⟨qq331⟩,⟨qq233⟩,⟨qq158⟩⟩
      ·replace c12:=Bool.eq_false_iff.mpr c12;subst c12;have H1 : (some false) = some r:=by rw [if_neg (show ¬ (false = true) by decide)] at H;exact H
       clear H;have H:=H1;clear H1;obtain rfl:=Option.some.inj H
       try go_wp2
       replace BK394:=am (blk_drew BK394.out);replace HB:=am qq519;have p396 : 0 ≤ (x8_1 : Int):=odt qq309;have q396 : x8_1 < (l2.length : Int):=odt qq309;obtain ⟨ad396,e396,hx396_0,hx396_1⟩:=at_T76 HR2.out x8_1 p396 q396;have hw396_1:=hx396_1;have hw396_0:=hx396_0
       cases e396
       replace hx396_0:=(ct HB.out hx396_0 :)
       replace hx396_1:=(ct HB.out hx396_1 :)
       replace p396:=eq_true p396;replace q396:=eq_true q396;have p398 : 0 ≤ (x8_1 : Int):=odt qq309;have q398 : x8_1 < (l2.length : Int):=odt qq309;obtain ⟨ad398,e398,hx398_0,hx398_1⟩:=at_T76 HR2.out x8_1 p398 q398;have hw398_1:=hx398_1;have hw398_0:=hx398_0;obtain rfl : ad396 = ad398:=(by injection e398)
       replace hx398_0:=(ct HB.out hx398_0 :)
       replace hx398_1:=(ct HB.out hx398_1 :)
       replace p398:=eq_true p398;replace q398:=eq_true q398;refine start_ (n:=18) (S:=fun w' => w'.cell? ⟨gb394,0,none⟩ = some (.int .i64 a0_0) ∧ w'.cell? ⟨gb394,1,none⟩ = some (.int .i64 a0_1) ∧ w'.cell? ⟨gb394,2,none⟩ = some (.slice A0_2 l0_2.length c0_2) ∧ w'.cell? (ad396.add ((x8_1).toNat * 2)) = some (.int .i64 ((rd_T76 l2 x8_1).f0)) ∧ w'.cell? ⟨(ad396.add ((x8_1).toNat * 2)).block,(ad396.add ((x8_1).toNat * 2)).off + 1,none⟩ = some (.int .i64 ((rd_T76 l2 x8_1).f1)) ∧ w'.cell? (ad396.add ((x8_1).toNat * 2)) = some (.int .i64 ((rd_T76 l2 x8_1).f0)) ∧ w'.cell? ⟨(ad396.add ((x8_1).toNat * 2)).block,(ad396.add ((x8_1).toNat * 2)).off + 1,none⟩ = some (.int .i64 ((rd_T76 l2 x8_1).f1))) (ds:=[]) m0_13 (by kernel_rfl) rfl rfl ⟨(blk_cell BK394.out 0).trans rfl,(blk_cell BK394.out 1).trans rfl,(blk_cell BK394.out 2).trans rfl,(ct HB.out hw396_0 :),(ct HB.out hw396_1 :),(ct HB.out hw398_0 :),(ct HB.out hw398_1 :)⟩ (fun hHeld => ?_);refine with_tabW spec_IsPlan.tab5 spec_IsPlan.bits5 (fun HT_ HW_ => ?_)
       generalize wr.drew = w15 at BK394 HB hx396_0 hx396_1 hx398_0 hx398_1 hHeld ⊢
       refine pV (i:=1) (N:=some 17) m1_13 rfl rfl qT ?_
       refine pV (i:=2) (N:=some 18) m2_13 rfl rfl qT ?_
       refine pV (i:=3) (N:=some 19) m3_13 rfl rfl qT ?_
       refine pV (i:=4) (N:=some 20) m4_13 rfl rfl qT ?_
       refine pV (i:=5) (N:=some 21) m5_13 rfl rfl qT ?_
       refine tV7 (i:=0) (N:=some 16) m6_13 rfl rfl (take_ofW HT_.out HW_.out (by kernel_rfl)) hHeld ?_
       refine tV7 (i:=6) (N:=some 22) m7_13 rfl rfl (take_ofW HT_.out HW_.out (by kernel_rfl)) hHeld ?_
       refine one_ (i:=7) (N:=some 23) m8_13 rfl rfl (one_of HT_.out (by kernel_rfl)) (by decide) (fun K hK => ?_);refine goes_ Try.func103 (by kernel_rfl) rfl #[.agg #[.int .i64 a0_0,.int .i64 a0_1,.slice A0_2 l0_2.length c0_2],.int .i64 x7_1,.int .i64 ((rd_T76 l2 x8_1).f0)] (by rfl) rfl rfl qq187 ?_;with_reducible refine (spec_Days.calls k1 a0_0 a0_1 _ _ l0_2 x7_1 ((rd_T76 l2 x8_1).f0) t397 _ ?side1 ?side2 A7.out).mono ?_
       (case side1 => exact qq117);(case side2 => exact qq334)
       rintro e w16 ⟨rfl,hb⟩
       refine ⟨_,rfl,?_⟩;replace BK394:=am qq383;replace HB:=am (below_step qq158 hb);(try clear hb);(try clear hb2);(try clear hk);(try clear hi);refine hK.out _ _ ⟨(blk_cell BK394.out 0).trans rfl,(blk_cell BK394.out 1).trans rfl,(blk_cell BK394.out 2).trans rfl,(ct HB.out hw396_0 :),(ct HB.out hw396_1 :),(ct HB.out hw398_0 :),(ct HB.out hw398_1 :)⟩ (fun hHeld => ?_);clear hK K;refine norm_ (a':=?_) ?_ ?_;rotate_left
       ·show Act.put _ (some 23) _ = _
        simp only [Act.put,sA,s0,s1,i64_w,i32_w];rfl
       refine pV (i:=8) (N:=some 24) m9_13 rfl rfl qT ?_
       refine pV (i:=9) (N:=some 25) m10_13 rfl rfl qT ?_
       refine pV (i:=10) (N:=some 26) m11_13 rfl rfl qT ?_
       refine pV (i:=11) (N:=some 27) m12_13 rfl rfl qT ?_
       refine pV (i:=12) (N:=some 28) m13_13 rfl rfl qT ?_
       refine pV (i:=13) (N:=some 29) m14_13 rfl rfl qT ?_
       refine tV7 (i:=14) (N:=some 30) m15_13 rfl rfl (take_ofW HT_.out HW_.out (by kernel_rfl)) hHeld ?_
       refine one_ (i:=15) (N:=some 31) m16_13 rfl rfl (one_of HT_.out (by kernel_rfl)) (by decide) (fun K hK => ?_);refine goes_ Try.func104 (by kernel_rfl) rfl #[.int .i64 ((rd_T76 l2 x8_1).f1),.int .i64 0,.int .i64 30] (by rfl) rfl rfl qq187 ?_;with_reducible refine (spec_l1In.calls ((rd_T76 l2 x8_1).f1) 0 30 false _ A11.out).mono ?_
       rintro e w' ⟨rfl,⟨nd,rfl⟩⟩
       refine ⟨_,rfl,?_⟩;refine hK.out _ _ ⟨(blk_cell BK394.out 0).trans rfl,(blk_cell BK394.out 1).trans rfl,(blk_cell BK394.out 2).trans rfl,(ct HB.out hw396_0 :),(ct HB.out hw396_1 :),(ct HB.out hw398_0 :),(ct HB.out hw398_1 :)⟩ (fun hHeld => ?_);clear hK K;refine norm_ (a':=?_) ?_ ?_;rotate_left
       ·show Act.put _ (some 31) _ = _
        simp only [Act.put,sA,s0,s1,i64_w,i32_w];rfl
       refine pV (i:=16) (N:=some 32) m17_13 rfl rfl qT ?_
       refine pV (i:=17) (N:=some 33) m18_13 rfl rfl qT ?_
       refine done_ (done_of HT_.out (by kernel_rfl)) ?_
       try go_wp2
       go_ret
       exact ⟨qq263,qq158⟩
    ·rw [if_neg c6] at H;exact absurd H (by simp)
   ·rw [if_neg c5] at H;have c5b0 : decide (x8_1 < (l2.length : Int)) = false:=decide_eq_false c5;clear c5;replace H:=bS.mp H;obtain ⟨t395,A170,H⟩:=H;(try dsimp only at H);have A17:=am A170;clear A170
    by_cases c18 : t395 = true
    ·subst c18;rw [if_pos rfl] at H;obtain rfl:=Option.some.inj H;obtain ⟨hcz19_0,hcz19_1,hcz19_2,hfz19_0,hfz19_1,hfz19_2⟩:=bcl3 BK394.out;go_wp2_with (first | ((with_reducible refine gate_callee (f:=105) rfl ?_);refine goesL_ (some 41) rfl rfl Try.func105 (by kernel_rfl) rfl #[.agg #[.int .i64 a0_0,.int .i64 a0_1,.slice A0_2 l0_2.length c0_2],.int .i64 a1] rfl qq187 ?_;(with_reducible refine (spec_IsOpen.calls k1 a0_0 a0_1 _ _ l0_2 a1 true _ ?side1 ?side2 A17.out).mono ?_);(case side1 => exact qq117);(case side2 => exact qq334);rintro e w20 ⟨rfl,hb⟩;refine ⟨_,rfl,?_⟩;replace BK394:=am qq383;replace HB:=am (below_step qq158 hb);(try clear hb);(try clear hb2);(try clear hk);(try clear hi)))
     go_ret
     exact ⟨qq263,qq158⟩
    ·replace c18:=Bool.eq_false_iff.mpr c18;subst c18;have H1 : (some false) = some r:=by rw [if_neg (show ¬ (false = true) by decide)] at H;exact H
     clear H;have H:=H1;clear H1;obtain rfl:=Option.some.inj H;obtain ⟨hcz21_0,hcz21_1,hcz21_2,hfz21_0,hfz21_1,hfz21_2⟩:=bcl3 BK394.out;go_wp2_with (first | ((with_reducible refine gate_callee (f:=105) rfl ?_);refine goesL_ (some 41) rfl rfl Try.func105 (by kernel_rfl) rfl #[.agg #[.int .i64 a0_0,.int .i64 a0_1,.slice A0_2 l0_2.length c0_2],.int .i64 a1] rfl qq187 ?_;(with_reducible refine (spec_IsOpen.calls k1 a0_0 a0_1 _ _ l0_2 a1 false _ ?side1 ?side2 A17.out).mono ?_);(case side1 => exact qq117);(case side2 => exact qq334);rintro e w22 ⟨rfl,hb⟩;refine ⟨_,rfl,?_⟩;replace BK394:=am qq383;replace HB:=am (below_step qq158 hb);(try clear hb);(try clear hb2);(try clear hk);(try clear hi)))
     go_ret
     exact ⟨qq263,qq158⟩

end Go.Proofs.Ytcbkknpmeknppaa.PFnExactPlanFood
