/- Contracts of functions that the law FnExactPlanDays reaches, for its row: lines that the kit's printer wrote for this claim, set shorter by a program of this session (own.py), and what fell in Lean proved anew. Lean checks them. -/
import Derived.Test.YtcbkknpmeknppaaSFnExactPlanDaysx0
import Derived.Test.YtcbkknpmeknppaaSFnExactPlanDaysx6
import Derived.Test.YtcbkknpmeknppaaSFnExactPlanDaysx7
import Derived.Test.YtcbkknpmeknppaaSFnExactPlanDaysx9
namespace Go.Proofs.Ytcbkknpmeknppaa.PFnExactPlanDays
open Go.RowKit Go.Proofs.YtcbkknpmeknppaaW.PrintWords Go.Proofs.YtcbkknpmeknppaaW.PrintLast Go.Proofs.YtcbkknpmeknppaaW.PrintMore
attribute [local go_sem] max2_int min2_int max_two min_two max_three min_three max_four min_four   -- for this text's walks alone
set_option linter.unusedVariables false
set_option linter.unusedSimpArgs false

abbrev m0_10 : Array Bool := #[Z,Z,Z,Z,Z,Z,Z,Z,Z,Z,Z,Z,Z,Z,Z,Z,Z,Z]
abbrev m1_10 : Array Bool := #[Z,Y,Z,Z,Z,Z,Z,Z,Z,Z,Z,Z,Z,Z,Z,Z,Z,Z]
abbrev m2_10 : Array Bool := #[Z,Y,Y,Z,Z,Z,Z,Z,Z,Z,Z,Z,Z,Z,Z,Z,Z,Z]
abbrev m3_10 : Array Bool := #[Z,Y,Y,Y,Z,Z,Z,Z,Z,Z,Z,Z,Z,Z,Z,Z,Z,Z]
abbrev m4_10 : Array Bool := #[Z,Y,Y,Y,Y,Z,Z,Z,Z,Z,Z,Z,Z,Z,Z,Z,Z,Z]
abbrev m5_10 : Array Bool := #[Z,Y,Y,Y,Y,Y,Z,Z,Z,Z,Z,Z,Z,Z,Z,Z,Z,Z]
abbrev m6_10 : Array Bool := #[Y,Y,Y,Y,Y,Y,Z,Z,Z,Z,Z,Z,Z,Z,Z,Z,Z,Z]
abbrev m7_10 : Array Bool := #[Y,Y,Y,Y,Y,Y,Y,Z,Z,Z,Z,Z,Z,Z,Z,Z,Z,Z]
abbrev m8_10 : Array Bool := #[Y,Y,Y,Y,Y,Y,Y,Y,Z,Z,Z,Z,Z,Z,Z,Z,Z,Z]
abbrev m9_10 : Array Bool := #[Y,Y,Y,Y,Y,Y,Y,Y,Y,Z,Z,Z,Z,Z,Z,Z,Z,Z]
abbrev m10_10 : Array Bool := #[Y,Y,Y,Y,Y,Y,Y,Y,Y,Y,Z,Z,Z,Z,Z,Z,Z,Z]
abbrev m11_10 : Array Bool := #[Y,Y,Y,Y,Y,Y,Y,Y,Y,Y,Y,Z,Z,Z,Z,Z,Z,Z]
abbrev m12_10 : Array Bool := #[Y,Y,Y,Y,Y,Y,Y,Y,Y,Y,Y,Y,Z,Z,Z,Z,Z,Z]
abbrev m13_10 : Array Bool := #[Y,Y,Y,Y,Y,Y,Y,Y,Y,Y,Y,Y,Y,Z,Z,Z,Z,Z]
abbrev m14_10 : Array Bool := #[Y,Y,Y,Y,Y,Y,Y,Y,Y,Y,Y,Y,Y,Y,Z,Z,Z,Z]
abbrev m15_10 : Array Bool := #[Y,Y,Y,Y,Y,Y,Y,Y,Y,Y,Y,Y,Y,Y,Y,Z,Z,Z]
abbrev m16_10 : Array Bool := #[Y,Y,Y,Y,Y,Y,Y,Y,Y,Y,Y,Y,Y,Y,Y,Y,Z,Z]
abbrev m17_10 : Array Bool := #[Y,Y,Y,Y,Y,Y,Y,Y,Y,Y,Y,Y,Y,Y,Y,Y,Y,Z]
abbrev m18_10 : Array Bool := #[Y,Y,Y,Y,Y,Y,Y,Y,Y,Y,Y,Y,Y,Y,Y,Y,Y,Y]
/-! ### spec_IsPlan: function 55 -/
def spec_IsPlan.l0 : Nat → Int → List (S76) → Int → Int → Int → Int → List Int → Option (Bool)
 | 0,_,_,_,_,_,_,_ => none
 | k + 1,x1,x2,x7,x8,x330000,x330001,x330002 => if x8 < (x2.length : Int) then (if 0 ≤ x8 then ((spec_Days.f k x330000 x330001 x330002 x7 ((rd_T76 x2 x8).f0)).bind fun t332 => (if t332 < 0 then (some false) else ((spec_l1In.f ((rd_T76 x2 x8).f1) 0 30).bind fun t334 => (if t334 = true then (spec_IsPlan.l0 k x1 x2 ((rd_T76 x2 x8).f0) (wrap64 (x8 + 1)) x330000 x330001 x330002) else (some false))))) else (none)) else ((spec_IsOpen.f k x330000 x330001 x330002 x1).bind fun t330 => (if t330 = true then (some (decide ((x2.length : Int) ≤ 10))) else (some false)))
def spec_IsPlan.f (k : Nat) (a0_0 : Int) (a0_1 : Int) (l0_2 : List Int) (a1 : Int) (l2 : List (S76)) : Option (Bool) := spec_IsPlan.l0 k a1 l2 a1 0 a0_0 a0_1 l0_2
theorem spec_IsPlan.mono_l : ∀ k, (∀ y0 y1 y2 y3 y4 y5 y6, LeO (spec_IsPlan.l0 k y0 y1 y2 y3 y4 y5 y6) (spec_IsPlan.l0 (k + 1) y0 y1 y2 y3 y4 y5 y6))
 | 0 => fun _ _ _ _ _ _ _ r h => by simp [spec_IsPlan.l0] at h
 | k + 1 => by
  have ih0:=spec_IsPlan.mono_l k
  ·intro y0 y1 y2 y3 y4 y5 y6
   unfold spec_IsPlan.l0
   repeat' first
   | (with_reducible exact ih0 _ _ _ _ _ _ _)
   | (with_reducible exact spec_Days.mono _ _ _ _ _ _)
   | (with_reducible exact spec_IsOpen.mono _ _ _ _ _)
   | (with_reducible exact LeO.refl _)
   | (with_reducible exact LeO.none _)
   | (with_reducible refine LeO.ite ?_ ?_)
   | (with_reducible refine LeO.bind ?_ (fun _ => ?_))
   | exact ih0 _ _ _ _ _ _ _
   | exact spec_Days.mono _ _ _ _ _ _
   | exact spec_IsOpen.mono _ _ _ _ _
   | exact LeO.none _
   | refine LeO.ite ?_ ?_
   | refine LeO.bind ?_ (fun _ => ?_)
theorem spec_IsPlan.mono : ∀ a0 a1 a2 a3 a4 k, LeO (spec_IsPlan.f k a0 a1 a2 a3 a4) (spec_IsPlan.f (k + 1) a0 a1 a2 a3 a4) := by
 intro a0 a1 a2 a3 a4 k
 have ih0:=spec_IsPlan.mono_l k
 unfold spec_IsPlan.f
 repeat' first
   | (with_reducible exact ih0 _ _ _ _ _ _ _)
   | (with_reducible exact spec_Days.mono _ _ _ _ _ _)
   | (with_reducible exact spec_IsOpen.mono _ _ _ _ _)
   | (with_reducible exact LeO.refl _)
   | (with_reducible exact LeO.none _)
   | (with_reducible refine LeO.ite ?_ ?_)
   | (with_reducible refine LeO.bind ?_ (fun _ => ?_))
   | exact ih0 _ _ _ _ _ _ _
   | exact spec_Days.mono _ _ _ _ _ _
   | exact spec_IsOpen.mono _ _ _ _ _
   | exact LeO.none _
   | refine LeO.ite ?_ ?_
   | refine LeO.bind ?_ (fun _ => ?_)
def spec_IsPlan.T5 : Bool × List (List Nat × List Nat) := (true, [([], []), ([], []), ([], []), ([], []), ([2, 3], [2, 3]), ([4], [4]), ([5], [5]), ([0, 1, 6], [0, 1, 6]), ([7], [7]), ([8, 7], [8]), ([9], [9]), ([9], [9]), ([10, 11, 9], [9, 10, 11]), ([12, 9], [9, 12]), ([13, 9], [9, 13]), ([14, 9, 9], [9, 14]), ([15, 9], [9, 15]), ([9, 16], [9, 16])])
def spec_IsPlan.B5 : List Nat := [0, 0, 0, 0, 12, 28, 60, 127, 255, 511, 1023, 1023, 4095, 8191, 16383, 32767, 65535, 131071]
theorem spec_IsPlan.tab5 : rtab .any (opsOf Try.f55 5) = spec_IsPlan.T5 := by kernel_rfl
theorem spec_IsPlan.bits5 : waitsOk spec_IsPlan.T5.2 spec_IsPlan.B5 = true := by kernel_rfl
set_option maxHeartbeats 8000000 in
set_option maxRecDepth 100000 in
theorem spec_IsPlan.calls (k : Nat) (a0_0 : Int) (a0_1 : Int) (A0_2 : Option Addr) (c0_2 : Nat) (l0_2 : List Int) (a1 : Int) (A2 : Option Addr) (c2 : Nat) (l2 : List (S76)) (r : Bool) (w : World) (hr0_2 : Kd.C (Kd.int .i64) w A0_2 l0_2.length l0_2) (hc0_2 : l0_2.length ≤ c0_2) (hr2 : Kd.C k76 w A2 l2.length l2) (hc2 : l2.length ≤ c2) (h : spec_IsPlan.f k a0_0 a0_1 l0_2 a1 l2 = some r) :
  Calls Try.prog 55 #[.agg #[.int .i64 a0_0,.int .i64 a0_1,.slice A0_2 l0_2.length c0_2],.int .i64 a1,.slice A2 l2.length c2] w fun e w' => e = .returned (.bool r) ∧ Below w.heap.size w w':=by
 have hu51:=Try.underlying51;have HR0_2:=am hr0_2;have HC0_2:=am hc0_2;clear hr0_2 hc0_2;have HR2:=am hr2;have HC2:=am hc2;clear hr2 hc2;have HB:=am (Below.refl w.heap.size w);have H : (spec_IsPlan.l0 k a1 l2 a1 0 a0_0 a0_1 l0_2) = some r:=h;clear h;have H':=am H;clear H
 go_enter Try.func55,Try.ntmps55
 go_wp2_with (first | ((with_reducible refine gate_dst (N:=3) rfl ?_);(try (refine gate_guard (by rfl) ?_;dsimp only));refine box_event ?hg (N:=3) ?hd (cs:=#[.int .i64 a0_0,.int .i64 a0_1,.slice A0_2 l0_2.length c0_2]) (t:=51) ?hr ?_;(case hd => rfl);(case hg => rfl);(case hr => exact qq186);intro gb329 hg w4 hbox hb;have BK329:=am (hbox);have GW329:=am ((qq73 : w.heap.size ≤ gb329));have GE329:=am ((qq73 : w.heap.size ≤ gb329));replace HB:=am (below_step qq117 hb);clear hb hbox hg))
 go_loopg [7,8] k (fun kq v7 v8 w' => ∃ (x7_1 : Int) (x8_1 : Int),v7 = .int .i64 x7_1 ∧ v8 = .int .i64 x8_1 ∧ Aside0 (spec_IsPlan.l0 kq a1 l2 x7_1 x8_1 a0_0 a0_1 l0_2 = some r) ∧ Aside0 (kq ≤ k) ∧ Aside0 (w'.heap[gb329]? = some (.cells #[.int .i64 a0_0,.int .i64 a0_1,(.slice A0_2 l0_2.length c0_2)] 51 (0,0))) ∧ Aside0 (Below w.heap.size w w'))
 case atStart => exact ⟨(a1),(0),qq185,qq185,H',⟨Nat.le_refl _⟩,⟨qq123⟩,⟨qq78⟩⟩
 case round =>
  clear H'
  try clear c2
  try clear p2
  obtain ⟨x7_1,x8_1,rfl,rfl,HA,HK1,BK329,HB⟩:=hrel
  cases gk with
  | zero => exact absurd HA.out (by simp [spec_IsPlan.l0])
  | succ k1 =>
   have H:=HA.out;clear HA;simp only [spec_IsPlan.l0] at H
   by_cases c5 : x8_1 < (l2.length : Int)
   ·rw [if_pos c5] at H;have c5b0 : decide (x8_1 < (l2.length : Int)) = true:=decide_eq_true c5;clear c5
    by_cases c6 : 0 ≤ x8_1
    ·rw [if_pos c6] at H;have c6b0 : decide (0 ≤ x8_1) = true:=decide_eq_true c6;clear c6;replace H:=bS.mp H;obtain ⟨t332,A70,H⟩:=H;replace H : (if t332 < 0 then (some false) else ((spec_l1In.f ((rd_T76 l2 x8_1).f1) 0 30).bind fun t334 => (if t334 = true then (spec_IsPlan.l0 k1 a1 l2 ((rd_T76 l2 x8_1).f0) (wrap64 (x8_1 + 1)) a0_0 a0_1 l0_2) else (some false)))) = some r:=H;have A7:=am A70;clear A70
     by_cases c8 : t332 < 0
     ·rw [if_pos c8] at H;have c8b0 : decide (t332 < 0) = true:=decide_eq_true c8;clear c8;obtain rfl:=Option.some.inj H
      try go_wp2
      replace BK329:=am (blk_drew BK329.out);replace HB:=am (below_drew1 HB.out);have p331 : 0 ≤ (x8_1 : Int):=odt qq183;have q331 : x8_1 < (l2.length : Int):=odt qq183;obtain ⟨ad331,e331,hx331_0,hx331_1⟩:=at_T76 HR2.out x8_1 p331 q331;have hw331_1:=hx331_1;have hw331_0:=hx331_0
      cases e331
      replace hx331_0:=(ct HB.out hx331_0 :)
      replace hx331_1:=(ct HB.out hx331_1 :)
      replace p331:=eq_true p331;replace q331:=eq_true q331;refine start_ (n:=18) (S:=fun w' => w'.cell? ⟨gb329,0,none⟩ = some (.int .i64 a0_0) ∧ w'.cell? ⟨gb329,1,none⟩ = some (.int .i64 a0_1) ∧ w'.cell? ⟨gb329,2,none⟩ = some (.slice A0_2 l0_2.length c0_2) ∧ w'.cell? (ad331.add ((x8_1).toNat * 2)) = some (.int .i64 ((rd_T76 l2 x8_1).f0)) ∧ w'.cell? ⟨(ad331.add ((x8_1).toNat * 2)).block,(ad331.add ((x8_1).toNat * 2)).off + 1,none⟩ = some (.int .i64 ((rd_T76 l2 x8_1).f1))) (ds:=[]) m0_10 (by kernel_rfl) rfl rfl ⟨(blk_cell BK329.out 0).trans rfl,(blk_cell BK329.out 1).trans rfl,(blk_cell BK329.out 2).trans rfl,(ct HB.out hw331_0 :),(ct HB.out hw331_1 :)⟩ (fun hHeld => ?_);refine with_tabW spec_IsPlan.tab5 spec_IsPlan.bits5 (fun HT_ HW_ => ?_)
      generalize wr.drew = w9 at BK329 HB hx331_0 hx331_1 hHeld ⊢
      refine pV (i:=1) (N:=some 17) m1_10 rfl rfl qT ?_
      refine pV (i:=2) (N:=some 18) m2_10 rfl rfl qT ?_
      refine pV (i:=3) (N:=some 19) m3_10 rfl rfl qT ?_
      refine pV (i:=4) (N:=some 20) m4_10 rfl rfl qT ?_
      refine pV (i:=5) (N:=some 21) m5_10 rfl rfl qT ?_
      refine tV5 (i:=0) (N:=some 16) m6_10 rfl rfl (take_ofW HT_.out HW_.out (by kernel_rfl)) hHeld ?_
      refine tV5 (i:=6) (N:=some 22) m7_10 rfl rfl (take_ofW HT_.out HW_.out (by kernel_rfl)) hHeld ?_
      refine one_ (i:=7) (N:=some 23) m8_10 rfl rfl (one_of HT_.out (by kernel_rfl)) (by decide) (fun K hK => ?_);refine goes_ Try.func103 (by kernel_rfl) rfl #[.agg #[.int .i64 a0_0,.int .i64 a0_1,.slice A0_2 l0_2.length c0_2],.int .i64 x7_1,.int .i64 ((rd_T76 l2 x8_1).f0)] (by rfl) rfl rfl qq101 ?_;with_reducible refine (spec_Days.calls k1 a0_0 a0_1 _ _ l0_2 x7_1 ((rd_T76 l2 x8_1).f0) t332 _ ?side1 ?side2 A7.out).mono ?_
      (case side1 => exact qq56);(case side2 => exact qq199)
      rintro e w10 ⟨rfl,hb⟩
      refine ⟨_,rfl,?_⟩;replace BK329:=am (blk_below (g:=gb329) (o:=.cells #[.int .i64 a0_0,.int .i64 a0_1,.slice A0_2 l0_2.length c0_2] 51 (0,0)) qq123 hb);replace HB:=am (below_step qq78 hb);(try clear hb);(try clear hb2);(try clear hk);(try clear hi);refine hK.out _ _ ⟨(blk_cell BK329.out 0).trans rfl,(blk_cell BK329.out 1).trans rfl,(blk_cell BK329.out 2).trans rfl,(ct HB.out hw331_0 :),(ct HB.out hw331_1 :)⟩ (fun hHeld => ?_);clear hK K;refine norm_ (a':=?_) ?_ ?_;rotate_left
      ·show Act.put _ (some 23) _ = _
       simp only [Act.put,sA,s0,s1,i64_w,i32_w];rfl
      refine pV (i:=8) (N:=some 24) m9_10 rfl rfl qT ?_
      refine pV (i:=9) (N:=some 25) m10_10 rfl rfl qT ?_
      refine pW (i:=10) (N:=some 26) m11_10 rfl rfl qT ?_
      refine pW (i:=11) (N:=some 27) m12_10 rfl rfl qT ?_
      refine pW (i:=12) (N:=some 28) m13_10 rfl rfl qT ?_
      refine pW (i:=13) (N:=some 29) m14_10 rfl rfl qT ?_
      refine pW (i:=14) (N:=some 30) m15_10 rfl rfl qT ?_
      refine pW (i:=15) (N:=some 31) m16_10 rfl rfl qT ?_
      refine pW (i:=16) (N:=some 32) m17_10 rfl rfl qT ?_
      refine pV (i:=17) (N:=some 33) m18_10 rfl rfl qT ?_
      refine done_ (done_of HT_.out (by kernel_rfl)) ?_
      try go_wp2
      go_ret
      exact ⟨qq147,qq78⟩
     ·rw [if_neg c8] at H;have c8b0 : decide (t332 < 0) = false:=decide_eq_false c8;clear c8;replace H:=bS.mp H;obtain ⟨t334,A110,H⟩:=H;replace H : (if t334 = true then (spec_IsPlan.l0 k1 a1 l2 ((rd_T76 l2 x8_1).f0) (wrap64 (x8_1 + 1)) a0_0 a0_1 l0_2) else (some false)) = some r:=H;have A11:=am A110;clear A110
      by_cases c12 : t334 = true
      ·subst c12;have H1 : (spec_IsPlan.l0 k1 a1 l2 ((rd_T76 l2 x8_1).f0) (wrap64 (x8_1 + 1)) a0_0 a0_1 l0_2) = some r:=by rw [if_pos rfl] at H;exact H
       clear H;have H:=H1;clear H1;have H':=am H;clear H
       try go_wp2
       replace BK329:=am (blk_drew BK329.out);replace HB:=am (below_drew1 HB.out);have p331 : 0 ≤ (x8_1 : Int):=odt qq183;have q331 : x8_1 < (l2.length : Int):=odt qq183;obtain ⟨ad331,e331,hx331_0,hx331_1⟩:=at_T76 HR2.out x8_1 p331 q331;have hw331_1:=hx331_1;have hw331_0:=hx331_0
       cases e331
       replace hx331_0:=(ct HB.out hx331_0 :)
       replace hx331_1:=(ct HB.out hx331_1 :)
       replace p331:=eq_true p331;replace q331:=eq_true q331;have p333 : 0 ≤ (x8_1 : Int):=odt qq183;have q333 : x8_1 < (l2.length : Int):=odt qq183;obtain ⟨ad333,e333,hx333_0,hx333_1⟩:=at_T76 HR2.out x8_1 p333 q333;have hw333_1:=hx333_1;have hw333_0:=hx333_0;obtain rfl : ad331 = ad333:=(by injection e333)
       replace hx333_0:=(ct HB.out hx333_0 :)
       replace hx333_1:=(ct HB.out hx333_1 :)
       replace p333:=eq_true p333;replace q333:=eq_true q333;refine start_ (n:=18) (S:=fun w' => w'.cell? ⟨gb329,0,none⟩ = some (.int .i64 a0_0) ∧ w'.cell? ⟨gb329,1,none⟩ = some (.int .i64 a0_1) ∧ w'.cell? ⟨gb329,2,none⟩ = some (.slice A0_2 l0_2.length c0_2) ∧ w'.cell? (ad331.add ((x8_1).toNat * 2)) = some (.int .i64 ((rd_T76 l2 x8_1).f0)) ∧ w'.cell? ⟨(ad331.add ((x8_1).toNat * 2)).block,(ad331.add ((x8_1).toNat * 2)).off + 1,none⟩ = some (.int .i64 ((rd_T76 l2 x8_1).f1)) ∧ w'.cell? (ad331.add ((x8_1).toNat * 2)) = some (.int .i64 ((rd_T76 l2 x8_1).f0)) ∧ w'.cell? ⟨(ad331.add ((x8_1).toNat * 2)).block,(ad331.add ((x8_1).toNat * 2)).off + 1,none⟩ = some (.int .i64 ((rd_T76 l2 x8_1).f1))) (ds:=[]) m0_10 (by kernel_rfl) rfl rfl ⟨(blk_cell BK329.out 0).trans rfl,(blk_cell BK329.out 1).trans rfl,(blk_cell BK329.out 2).trans rfl,(ct HB.out hw331_0 :),(ct HB.out hw331_1 :),(ct HB.out hw333_0 :),(ct HB.out hw333_1 :)⟩ (fun hHeld => ?_);refine with_tabW spec_IsPlan.tab5 spec_IsPlan.bits5 (fun HT_ HW_ => ?_)
       generalize wr.drew = w13 at BK329 HB hx331_0 hx331_1 hx333_0 hx333_1 hHeld ⊢
       refine pV (i:=1) (N:=some 17) m1_10 rfl rfl qT ?_
       refine pV (i:=2) (N:=some 18) m2_10 rfl rfl qT ?_
       refine pV (i:=3) (N:=some 19) m3_10 rfl rfl qT ?_
       refine pV (i:=4) (N:=some 20) m4_10 rfl rfl qT ?_
       refine pV (i:=5) (N:=some 21) m5_10 rfl rfl qT ?_
       refine tV7 (i:=0) (N:=some 16) m6_10 rfl rfl (take_ofW HT_.out HW_.out (by kernel_rfl)) hHeld ?_
       refine tV7 (i:=6) (N:=some 22) m7_10 rfl rfl (take_ofW HT_.out HW_.out (by kernel_rfl)) hHeld ?_
       refine one_ (i:=7) (N:=some 23) m8_10 rfl rfl (one_of HT_.out (by kernel_rfl)) (by decide) (fun K hK => ?_);refine goes_ Try.func103 (by kernel_rfl) rfl #[.agg #[.int .i64 a0_0,.int .i64 a0_1,.slice A0_2 l0_2.length c0_2],.int .i64 x7_1,.int .i64 ((rd_T76 l2 x8_1).f0)] (by rfl) rfl rfl qq101 ?_;with_reducible refine (spec_Days.calls k1 a0_0 a0_1 _ _ l0_2 x7_1 ((rd_T76 l2 x8_1).f0) t332 _ ?side1 ?side2 A7.out).mono ?_
       (case side1 => exact qq56);(case side2 => exact qq199)
       rintro e w14 ⟨rfl,hb⟩
       refine ⟨_,rfl,?_⟩;replace BK329:=am (blk_below (g:=gb329) (o:=.cells #[.int .i64 a0_0,.int .i64 a0_1,.slice A0_2 l0_2.length c0_2] 51 (0,0)) qq123 hb);replace HB:=am (below_step qq78 hb);(try clear hb);(try clear hb2);(try clear hk);(try clear hi);refine hK.out _ _ ⟨(blk_cell BK329.out 0).trans rfl,(blk_cell BK329.out 1).trans rfl,(blk_cell BK329.out 2).trans rfl,(ct HB.out hw331_0 :),(ct HB.out hw331_1 :),(ct HB.out hw333_0 :),(ct HB.out hw333_1 :)⟩ (fun hHeld => ?_);clear hK K;refine norm_ (a':=?_) ?_ ?_;rotate_left
       ·show Act.put _ (some 23) _ = _
        simp only [Act.put,sA,s0,s1,i64_w,i32_w];rfl
       refine pV (i:=8) (N:=some 24) m9_10 rfl rfl qT ?_
       refine pV (i:=9) (N:=some 25) m10_10 rfl rfl qT ?_
       refine pV (i:=10) (N:=some 26) m11_10 rfl rfl qT ?_
       refine pV (i:=11) (N:=some 27) m12_10 rfl rfl qT ?_
       refine pV (i:=12) (N:=some 28) m13_10 rfl rfl qT ?_
       refine pV (i:=13) (N:=some 29) m14_10 rfl rfl qT ?_
       refine tV7 (i:=14) (N:=some 30) m15_10 rfl rfl (take_ofW HT_.out HW_.out (by kernel_rfl)) hHeld ?_
       refine one_ (i:=15) (N:=some 31) m16_10 rfl rfl (one_of HT_.out (by kernel_rfl)) (by decide) (fun K hK => ?_);refine goes_ Try.func104 (by kernel_rfl) rfl #[.int .i64 ((rd_T76 l2 x8_1).f1),.int .i64 0,.int .i64 30] (by rfl) rfl rfl qq101 ?_;with_reducible refine (spec_l1In.calls ((rd_T76 l2 x8_1).f1) 0 30 true _ A11.out).mono ?_
       rintro e w' ⟨rfl,⟨nd,rfl⟩⟩
       refine ⟨_,rfl,?_⟩;refine hK.out _ _ ⟨(blk_cell BK329.out 0).trans rfl,(blk_cell BK329.out 1).trans rfl,(blk_cell BK329.out 2).trans rfl,(ct HB.out hw331_0 :),(ct HB.out hw331_1 :),(ct HB.out hw333_0 :),(ct HB.out hw333_1 :)⟩ (fun hHeld => ?_);clear hK K;refine norm_ (a':=?_) ?_ ?_;rotate_left
       ·show Act.put _ (some 31) _ = _
        simp only [Act.put,sA,s0,s1,i64_w,i32_w];rfl
       refine pV (i:=16) (N:=some 32) m17_10 rfl rfl qT ?_
       refine pV (i:=17) (N:=some 33) m18_10 rfl rfl qT ?_
       refine done_ (done_of HT_.out (by kernel_rfl)) ?_;have p335 : 0 ≤ (x8_1 : Int):=odt qq183;have q335 : x8_1 < (l2.length : Int):=odt qq183;obtain ⟨ad335,e335,hx335_0,hx335_1⟩:=at_T76 HR2.out x8_1 p335 q335;obtain rfl : ad331 = ad335:=(by injection e335)
       replace hx335_0:=(ct HB.out hx335_0 :)
       replace hx335_1:=(ct HB.out hx335_1 :)
       replace p335:=eq_true p335;replace q335:=eq_true q335
       try go_wp2
       go_roundg k1
       case measure => have:=HK1.out;omega
       case rel => exact ⟨((rd_T76 l2 x8_1).f0),(wrap64 (x8_1 + 1)),qq185,qq185,H',⟨qq198⟩,⟨qq123⟩,⟨qq78⟩⟩
      ·replace c12:=Bool.eq_false_iff.mpr c12;subst c12;have H1 : (some false) = some r:=by rw [if_neg (show ¬ (false = true) by decide)] at H;exact H
       clear H;have H:=H1;clear H1;obtain rfl:=Option.some.inj H
       try go_wp2
       replace BK329:=am (blk_drew BK329.out);replace HB:=am (below_drew1 HB.out);have p331 : 0 ≤ (x8_1 : Int):=odt qq183;have q331 : x8_1 < (l2.length : Int):=odt qq183;obtain ⟨ad331,e331,hx331_0,hx331_1⟩:=at_T76 HR2.out x8_1 p331 q331;have hw331_1:=hx331_1;have hw331_0:=hx331_0
       cases e331
       replace hx331_0:=(ct HB.out hx331_0 :)
       replace hx331_1:=(ct HB.out hx331_1 :)
       replace p331:=eq_true p331;replace q331:=eq_true q331;have p333 : 0 ≤ (x8_1 : Int):=odt qq183;have q333 : x8_1 < (l2.length : Int):=odt qq183;obtain ⟨ad333,e333,hx333_0,hx333_1⟩:=at_T76 HR2.out x8_1 p333 q333;have hw333_1:=hx333_1;have hw333_0:=hx333_0;obtain rfl : ad331 = ad333:=(by injection e333)
       replace hx333_0:=(ct HB.out hx333_0 :)
       replace hx333_1:=(ct HB.out hx333_1 :)
       replace p333:=eq_true p333;replace q333:=eq_true q333;refine start_ (n:=18) (S:=fun w' => w'.cell? ⟨gb329,0,none⟩ = some (.int .i64 a0_0) ∧ w'.cell? ⟨gb329,1,none⟩ = some (.int .i64 a0_1) ∧ w'.cell? ⟨gb329,2,none⟩ = some (.slice A0_2 l0_2.length c0_2) ∧ w'.cell? (ad331.add ((x8_1).toNat * 2)) = some (.int .i64 ((rd_T76 l2 x8_1).f0)) ∧ w'.cell? ⟨(ad331.add ((x8_1).toNat * 2)).block,(ad331.add ((x8_1).toNat * 2)).off + 1,none⟩ = some (.int .i64 ((rd_T76 l2 x8_1).f1)) ∧ w'.cell? (ad331.add ((x8_1).toNat * 2)) = some (.int .i64 ((rd_T76 l2 x8_1).f0)) ∧ w'.cell? ⟨(ad331.add ((x8_1).toNat * 2)).block,(ad331.add ((x8_1).toNat * 2)).off + 1,none⟩ = some (.int .i64 ((rd_T76 l2 x8_1).f1))) (ds:=[]) m0_10 (by kernel_rfl) rfl rfl ⟨(blk_cell BK329.out 0).trans rfl,(blk_cell BK329.out 1).trans rfl,(blk_cell BK329.out 2).trans rfl,(ct HB.out hw331_0 :),(ct HB.out hw331_1 :),(ct HB.out hw333_0 :),(ct HB.out hw333_1 :)⟩ (fun hHeld => ?_);refine with_tabW spec_IsPlan.tab5 spec_IsPlan.bits5 (fun HT_ HW_ => ?_)
       generalize wr.drew = w15 at BK329 HB hx331_0 hx331_1 hx333_0 hx333_1 hHeld ⊢
       refine pV (i:=1) (N:=some 17) m1_10 rfl rfl qT ?_
       refine pV (i:=2) (N:=some 18) m2_10 rfl rfl qT ?_
       refine pV (i:=3) (N:=some 19) m3_10 rfl rfl qT ?_
       refine pV (i:=4) (N:=some 20) m4_10 rfl rfl qT ?_
       refine pV (i:=5) (N:=some 21) m5_10 rfl rfl qT ?_
       refine tV7 (i:=0) (N:=some 16) m6_10 rfl rfl (take_ofW HT_.out HW_.out (by kernel_rfl)) hHeld ?_
       refine tV7 (i:=6) (N:=some 22) m7_10 rfl rfl (take_ofW HT_.out HW_.out (by kernel_rfl)) hHeld ?_
       refine one_ (i:=7) (N:=some 23) m8_10 rfl rfl (one_of HT_.out (by kernel_rfl)) (by decide) (fun K hK => ?_);refine goes_ Try.func103 (by kernel_rfl) rfl #[.agg #[.int .i64 a0_0,.int .i64 a0_1,.slice A0_2 l0_2.length c0_2],.int .i64 x7_1,.int .i64 ((rd_T76 l2 x8_1).f0)] (by rfl) rfl rfl qq101 ?_;with_reducible refine (spec_Days.calls k1 a0_0 a0_1 _ _ l0_2 x7_1 ((rd_T76 l2 x8_1).f0) t332 _ ?side1 ?side2 A7.out).mono ?_
       (case side1 => exact qq56);(case side2 => exact qq199)
       rintro e w16 ⟨rfl,hb⟩
       refine ⟨_,rfl,?_⟩;replace BK329:=am (blk_below (g:=gb329) (o:=.cells #[.int .i64 a0_0,.int .i64 a0_1,.slice A0_2 l0_2.length c0_2] 51 (0,0)) qq123 hb);replace HB:=am (below_step qq78 hb);(try clear hb);(try clear hb2);(try clear hk);(try clear hi);refine hK.out _ _ ⟨(blk_cell BK329.out 0).trans rfl,(blk_cell BK329.out 1).trans rfl,(blk_cell BK329.out 2).trans rfl,(ct HB.out hw331_0 :),(ct HB.out hw331_1 :),(ct HB.out hw333_0 :),(ct HB.out hw333_1 :)⟩ (fun hHeld => ?_);clear hK K;refine norm_ (a':=?_) ?_ ?_;rotate_left
       ·show Act.put _ (some 23) _ = _
        simp only [Act.put,sA,s0,s1,i64_w,i32_w];rfl
       refine pV (i:=8) (N:=some 24) m9_10 rfl rfl qT ?_
       refine pV (i:=9) (N:=some 25) m10_10 rfl rfl qT ?_
       refine pV (i:=10) (N:=some 26) m11_10 rfl rfl qT ?_
       refine pV (i:=11) (N:=some 27) m12_10 rfl rfl qT ?_
       refine pV (i:=12) (N:=some 28) m13_10 rfl rfl qT ?_
       refine pV (i:=13) (N:=some 29) m14_10 rfl rfl qT ?_
       refine tV7 (i:=14) (N:=some 30) m15_10 rfl rfl (take_ofW HT_.out HW_.out (by kernel_rfl)) hHeld ?_
       refine one_ (i:=15) (N:=some 31) m16_10 rfl rfl (one_of HT_.out (by kernel_rfl)) (by decide) (fun K hK => ?_);refine goes_ Try.func104 (by kernel_rfl) rfl #[.int .i64 ((rd_T76 l2 x8_1).f1),.int .i64 0,.int .i64 30] (by rfl) rfl rfl qq101 ?_;with_reducible refine (spec_l1In.calls ((rd_T76 l2 x8_1).f1) 0 30 false _ A11.out).mono ?_
       rintro e w' ⟨rfl,⟨nd,rfl⟩⟩
       refine ⟨_,rfl,?_⟩;refine hK.out _ _ ⟨(blk_cell BK329.out 0).trans rfl,(blk_cell BK329.out 1).trans rfl,(blk_cell BK329.out 2).trans rfl,(ct HB.out hw331_0 :),(ct HB.out hw331_1 :),(ct HB.out hw333_0 :),(ct HB.out hw333_1 :)⟩ (fun hHeld => ?_);clear hK K;refine norm_ (a':=?_) ?_ ?_;rotate_left
       ·show Act.put _ (some 31) _ = _
        simp only [Act.put,sA,s0,s1,i64_w,i32_w];rfl
       refine pV (i:=16) (N:=some 32) m17_10 rfl rfl qT ?_
       refine pV (i:=17) (N:=some 33) m18_10 rfl rfl qT ?_
       refine done_ (done_of HT_.out (by kernel_rfl)) ?_
       try go_wp2
       go_ret
       exact ⟨qq147,qq78⟩
    ·rw [if_neg c6] at H;exact absurd H (by simp)
   ·rw [if_neg c5] at H;have c5b0 : decide (x8_1 < (l2.length : Int)) = false:=decide_eq_false c5;clear c5;replace H:=bS.mp H;obtain ⟨t330,A170,H⟩:=H;replace H : (if t330 = true then (some (decide ((l2.length : Int) ≤ 10))) else (some false)) = some r:=H;have A17:=am A170;clear A170
    by_cases c18 : t330 = true
    ·subst c18;have H1 : (some (decide ((l2.length : Int) ≤ 10))) = some r:=by rw [if_pos rfl] at H;exact H
     clear H;have H:=H1;clear H1;obtain rfl:=Option.some.inj H;obtain ⟨hcz19_0,hcz19_1,hcz19_2,hfz19_0,hfz19_1,hfz19_2⟩:=bcl3 BK329.out;go_wp2_with (first | ((with_reducible refine gate_callee (f:=105) rfl ?_);refine goesL_ (some 41) rfl rfl Try.func105 (by kernel_rfl) rfl #[.agg #[.int .i64 a0_0,.int .i64 a0_1,.slice A0_2 l0_2.length c0_2],.int .i64 a1] rfl qq101 ?_;(with_reducible refine (spec_IsOpen.calls k1 a0_0 a0_1 _ _ l0_2 a1 true _ ?side1 ?side2 A17.out).mono ?_);(case side1 => exact qq56);(case side2 => exact qq199);rintro e w20 ⟨rfl,hb⟩;refine ⟨_,rfl,?_⟩;replace BK329:=am (blk_below (g:=gb329) (o:=.cells #[.int .i64 a0_0,.int .i64 a0_1,.slice A0_2 l0_2.length c0_2] 51 (0,0)) qq123 hb);replace HB:=am (below_step qq78 hb);(try clear hb);(try clear hb2);(try clear hk);(try clear hi)))
     go_ret
     exact ⟨qq147,qq78⟩
    ·replace c18:=Bool.eq_false_iff.mpr c18;subst c18;have H1 : (some false) = some r:=by rw [if_neg (show ¬ (false = true) by decide)] at H;exact H
     clear H;have H:=H1;clear H1;obtain rfl:=Option.some.inj H;obtain ⟨hcz21_0,hcz21_1,hcz21_2,hfz21_0,hfz21_1,hfz21_2⟩:=bcl3 BK329.out;go_wp2_with (first | ((with_reducible refine gate_callee (f:=105) rfl ?_);refine goesL_ (some 41) rfl rfl Try.func105 (by kernel_rfl) rfl #[.agg #[.int .i64 a0_0,.int .i64 a0_1,.slice A0_2 l0_2.length c0_2],.int .i64 a1] rfl qq101 ?_;(with_reducible refine (spec_IsOpen.calls k1 a0_0 a0_1 _ _ l0_2 a1 false _ ?side1 ?side2 A17.out).mono ?_);(case side1 => exact qq56);(case side2 => exact qq199);rintro e w22 ⟨rfl,hb⟩;refine ⟨_,rfl,?_⟩;replace BK329:=am (blk_below (g:=gb329) (o:=.cells #[.int .i64 a0_0,.int .i64 a0_1,.slice A0_2 l0_2.length c0_2] 51 (0,0)) qq123 hb);replace HB:=am (below_step qq78 hb);(try clear hb);(try clear hb2);(try clear hk);(try clear hi)))
     go_ret
     exact ⟨qq147,qq78⟩

end Go.Proofs.Ytcbkknpmeknppaa.PFnExactPlanDays
