/- Contracts of functions that the law FnSearch reaches, for its row: lines that the kit's printer wrote for this claim, set shorter by a program of this session (own.py), and what fell in Lean proved anew. Lean checks them. -/
import Derived.Test.YtimpjccgnkbgmaaSFnSearchx0
import Derived.Test.YtimpjccgnkbgmaaSFnSearchx3
import Derived.Test.YtimpjccgnkbgmaaSFnSearchx4
import Derived.Test.YtimpjccgnkbgmaaSFnSearchx12
namespace Go.Proofs.Ytimpjccgnkbgmaa.PFnSearch
open Go.RowKit Go.Proofs.YtimpjccgnkbgmaaW.PrintWords Go.Proofs.YtimpjccgnkbgmaaW.PrintLast Go.Proofs.YtimpjccgnkbgmaaW.PrintMore
attribute [local go_sem] max2_int min2_int max_two min_two max_three min_three max_four min_four   -- for this text's walks alone
set_option linter.unusedVariables false
set_option linter.unusedSimpArgs false

abbrev m0_13 : Array Bool := #[Z,Z,Z,Z,Z,Z,Z,Z,Z,Z,Z,Z,Z,Z,Z,Z,Z,Z,Z,Z]
abbrev m1_13 : Array Bool := #[Z,Y,Z,Z,Z,Z,Z,Z,Z,Z,Z,Z,Z,Z,Z,Z,Z,Z,Z,Z]
abbrev m2_13 : Array Bool := #[Y,Y,Z,Z,Z,Z,Z,Z,Z,Z,Z,Z,Z,Z,Z,Z,Z,Z,Z,Z]
abbrev m3_13 : Array Bool := #[Y,Y,Y,Z,Z,Z,Z,Z,Z,Z,Z,Z,Z,Z,Z,Z,Z,Z,Z,Z]
abbrev m4_13 : Array Bool := #[Y,Y,Y,Y,Z,Z,Z,Z,Z,Z,Z,Z,Z,Z,Z,Z,Z,Z,Z,Z]
abbrev m5_13 : Array Bool := #[Y,Y,Y,Y,Y,Z,Z,Z,Z,Z,Z,Z,Z,Z,Z,Z,Z,Z,Z,Z]
abbrev m6_13 : Array Bool := #[Y,Y,Y,Y,Y,Y,Z,Z,Z,Z,Z,Z,Z,Z,Z,Z,Z,Z,Z,Z]
abbrev m7_13 : Array Bool := #[Y,Y,Y,Y,Y,Y,Y,Z,Z,Z,Z,Z,Z,Z,Z,Z,Z,Z,Z,Z]
abbrev m8_13 : Array Bool := #[Y,Y,Y,Y,Y,Y,Y,Y,Z,Z,Z,Z,Z,Z,Z,Z,Z,Z,Z,Z]
abbrev m9_13 : Array Bool := #[Y,Y,Y,Y,Y,Y,Y,Y,Y,Y,Y,Y,Y,Y,Y,Y,Z,Z,Z,Z]
abbrev m10_13 : Array Bool := #[Y,Y,Y,Y,Y,Y,Y,Y,Y,Y,Y,Y,Y,Y,Y,Y,Y,Z,Z,Z]
abbrev m11_13 : Array Bool := #[Y,Y,Y,Y,Y,Y,Y,Y,Y,Y,Y,Y,Y,Y,Y,Y,Y,Y,Z,Z]
abbrev m12_13 : Array Bool := #[Y,Y,Y,Y,Y,Y,Y,Y,Y,Y,Y,Y,Y,Y,Y,Y,Y,Y,Y,Z]
abbrev m13_13 : Array Bool := #[Y,Y,Y,Y,Y,Y,Y,Y,Y,Y,Y,Y,Y,Y,Y,Y,Y,Y,Y,Y]
/-! ### impl_IsWay: function 25 -/
def impl_IsWay.l0 : Nat → List Int → List Int → Int → Int → Int → Int → List Int → Option (Bool)
 | 0,_,_,_,_,_,_,_ => none
 | k + 1,x1,x7,x8,x9,x558000,x558001,x558002 => if x9 < x8 then (if 0 ≤ x9 then (if x9 < (x7.length : Int) then ((impl_IsOpen.f k x558000 x558001 x558002 (rd x7 x9)).bind fun t559 => (if t559 = true then (if x9 > 0 then (if 0 ≤ (wrap64 (x9 - 1)) then (if (wrap64 (x9 - 1)) < (x1.length : Int) then ((impl_Near.f k x558000 x558001 x558002 (rd x1 (wrap64 (x9 - 1)))).bind fun t561 => ((impl_has.f k t561 (rd x7 x9)).bind fun t564 => (if t564 = true then (impl_IsWay.l0 k x1 x7 x8 (wrap64 (x9 + 1)) x558000 x558001 x558002) else (some false)))) else (none)) else (none)) else (impl_IsWay.l0 k x1 x7 x8 (wrap64 (x9 + 1)) x558000 x558001 x558002)) else (some false))) else (none)) else (none)) else (some (decide ((x1.length : Int) > 0)))
def impl_IsWay.f (k : Nat) (a0_0 : Int) (a0_1 : Int) (l0_2 : List Int) (l1 : List Int) : Option (Bool) := impl_IsWay.l0 k l1 l1 (l1.length : Int) 0 a0_0 a0_1 l0_2
def impl_IsWay.T4 : Bool × List (List Nat × List Nat) := (true, [([], []), ([], []), ([0, 1], [0, 1]), ([2], [2]), ([3, 2], [3]), ([4], [4]), ([5, 4], [4, 5]), ([6, 4, 4], [4, 6]), ([7], [7]), ([7], [7]), ([7], [7]), ([10, 7], [7, 10]), ([9, 11, 7], [7, 9, 11]), ([12, 7], [7, 12]), ([8, 13, 7, 7], [7, 8, 13]), ([7], [7]), ([14, 15, 14, 7], [7, 14, 15]), ([16, 7], [7, 16]), ([7, 17, 4], [4, 7, 17]), ([4, 18], [4, 18])])
def impl_IsWay.B4 : List Nat := [0, 0, 3, 7, 15, 31, 63, 127, 255, 255, 255, 1279, 3839, 7935, 16383, 255, 65535, 131071, 262143, 524287]
theorem impl_IsWay.tab4 : rtab .any (opsOf Try.f25 4) = impl_IsWay.T4 := by kernel_rfl
theorem impl_IsWay.bits4 : waitsOk impl_IsWay.T4.2 impl_IsWay.B4 = true := by kernel_rfl
set_option maxHeartbeats 8000000 in
set_option maxRecDepth 100000 in
theorem impl_IsWay.calls (k : Nat) (a0_0 : Int) (a0_1 : Int) (A0_2 : Option Addr) (c0_2 : Nat) (l0_2 : List Int) (A1 : Option Addr) (c1 : Nat) (l1 : List Int) (r : Bool) (w : World) (hr0_2 : Kd.C (Kd.int .i64) w A0_2 l0_2.length l0_2) (hc0_2 : l0_2.length ≤ c0_2) (hr1 : Kd.C (Kd.int .i64) w A1 l1.length l1) (hc1 : l1.length ≤ c1) (h : impl_IsWay.f k a0_0 a0_1 l0_2 l1 = some r) :
  Calls Try.prog 25 #[.agg #[.int .i64 a0_0,.int .i64 a0_1,.slice A0_2 l0_2.length c0_2],.slice A1 l1.length c1] w fun e w' => e = .returned (.bool r) ∧ Below w.heap.size w w':=by
 have hu26:=Try.underlying26;have HR0_2:=am hr0_2;have HC0_2:=am hc0_2;clear hr0_2 hc0_2;have HR1:=am hr1;have HC1:=am hc1;clear hr1 hc1;have HB:=am qq354;have H : (impl_IsWay.l0 k l1 l1 (l1.length : Int) 0 a0_0 a0_1 l0_2) = some r:=h;clear h;have H':=am H;clear H
 go_enter Try.func25,Try.ntmps25
 go_wp2_with (first | ((with_reducible refine gate_dst (N:=2) rfl ?_);refine box_event ?hg (N:=2) ?hd (cs:=#[.int .i64 a0_0,.int .i64 a0_1,.slice A0_2 l0_2.length c0_2]) (t:=26) ?hr ?_;(case hd => rfl);(case hg => rfl);(case hr => exact qq261);intro gb557 hg w3 hbox hb;have BK557:=am (hbox);have GW557:=am ((qq108 : w.heap.size ≤ gb557));have GE557:=am ((qq108 : w.heap.size ≤ gb557));replace HB:=am qq358;clear hb hbox hg))
 go_loopg [9] k (fun kq v9 w' => ∃ (x9_1 : Int),v9 = .int .i64 x9_1 ∧ Aside0 (impl_IsWay.l0 kq l1 l1 (l1.length : Int) x9_1 a0_0 a0_1 l0_2 = some r) ∧ Aside0 (kq ≤ k) ∧ Aside0 (w'.heap[gb557]? = some (.cells #[.int .i64 a0_0,.int .i64 a0_1,(.slice A0_2 l0_2.length c0_2)] 26 (0,0))) ∧ Aside0 (Below w.heap.size w w'))
 case atStart => exact ⟨(0),qq260,H',⟨Nat.le_refl _⟩,⟨qq183⟩,⟨qq113⟩⟩
 case round =>
  clear H'
  try clear c1
  try clear c2
  try clear p2
  obtain ⟨x9_1,rfl,HA,HK1,BK557,HB⟩:=hrel
  cases gk with
  | zero => exact absurd HA.out (by simp [impl_IsWay.l0])
  | succ k1 =>
   have H:=HA.out;clear HA;simp only [impl_IsWay.l0] at H
   by_cases c4 : x9_1 < (l1.length : Int)
   ·rw [if_pos c4] at H;have c4b0 : decide (x9_1 < (l1.length : Int)) = true:=decide_eq_true c4;clear c4
    by_cases c5 : 0 ≤ x9_1
    ·rw [if_pos c5] at H;have c5b0 : decide (0 ≤ x9_1) = true:=decide_eq_true c5;clear c5
     by_cases c6 : x9_1 < (l1.length : Int)
     ·rw [if_pos c6] at H;have c6b0 : decide (x9_1 < (l1.length : Int)) = true:=decide_eq_true c6;clear c6;replace H:=bS.mp H;obtain ⟨t559,A70,H⟩:=H;replace H : (if t559 = true then (if x9_1 > 0 then (if 0 ≤ (wrap64 (x9_1 - 1)) then (if (wrap64 (x9_1 - 1)) < (l1.length : Int) then ((impl_Near.f k1 a0_0 a0_1 l0_2 (rd l1 (wrap64 (x9_1 - 1)))).bind fun t561 => ((impl_has.f k1 t561 (rd l1 x9_1)).bind fun t564 => (if t564 = true then (impl_IsWay.l0 k1 l1 l1 (l1.length : Int) (wrap64 (x9_1 + 1)) a0_0 a0_1 l0_2) else (some false)))) else (none)) else (none)) else (impl_IsWay.l0 k1 l1 l1 (l1.length : Int) (wrap64 (x9_1 + 1)) a0_0 a0_1 l0_2)) else (some false)) = some r:=H;have A7:=am A70;clear A70
      by_cases c8 : t559 = true
      ·subst c8;have H1 : (if x9_1 > 0 then (if 0 ≤ (wrap64 (x9_1 - 1)) then (if (wrap64 (x9_1 - 1)) < (l1.length : Int) then ((impl_Near.f k1 a0_0 a0_1 l0_2 (rd l1 (wrap64 (x9_1 - 1)))).bind fun t561 => ((impl_has.f k1 t561 (rd l1 x9_1)).bind fun t564 => (if t564 = true then (impl_IsWay.l0 k1 l1 l1 (l1.length : Int) (wrap64 (x9_1 + 1)) a0_0 a0_1 l0_2) else (some false)))) else (none)) else (none)) else (impl_IsWay.l0 k1 l1 l1 (l1.length : Int) (wrap64 (x9_1 + 1)) a0_0 a0_1 l0_2)) = some r:=by rw [if_pos rfl] at H;exact H
       clear H;have H:=H1;clear H1
       by_cases c9 : x9_1 > 0
       ·rw [if_pos c9] at H;have c9b0 : decide (0 < x9_1) = true:=decide_eq_true c9;clear c9;obtain ⟨ji10,hji10⟩ : ∃ j_ : Int,(wrap64 (x9_1 - 1)) = j_:=⟨_,rfl⟩
        replace H : (if 0 ≤ (ji10) then (if (ji10) < (l1.length : Int) then ((impl_Near.f k1 a0_0 a0_1 l0_2 (rd l1 (ji10))).bind fun t561 => ((impl_has.f k1 t561 (rd l1 x9_1)).bind fun t564 => (if t564 = true then (impl_IsWay.l0 k1 l1 l1 (l1.length : Int) (wrap64 (x9_1 + 1)) a0_0 a0_1 l0_2) else (some false)))) else (none)) else (none)) = some r:=by first | (rw [hji10] at H;exact H) | (simp only [hji10] at H ⊢;exact H)
        (try rw [hji10] at A7);have hji10w : (IntKind.i64.wrap (x9_1 - 1)) = ji10:=(i64_w _).trans hji10
        by_cases c11 : 0 ≤ (ji10)
        ·rw [if_pos c11] at H;have c11b0 : decide (0 ≤ (ji10)) = true:=decide_eq_true c11;clear c11
         by_cases c12 : (ji10) < (l1.length : Int)
         ·rw [if_pos c12] at H;have c12b0 : decide ((ji10) < (l1.length : Int)) = true:=decide_eq_true c12;clear c12;replace H:=bS.mp H;obtain ⟨t561,A130,H⟩:=H;replace H : ((impl_has.f k1 t561 (rd l1 x9_1)).bind fun t564 => (if t564 = true then (impl_IsWay.l0 k1 l1 l1 (l1.length : Int) (wrap64 (x9_1 + 1)) a0_0 a0_1 l0_2) else (some false))) = some r:=H;have A13:=am A130;clear A130;replace H:=bS.mp H;obtain ⟨t564,A140,H⟩:=H;replace H : (if t564 = true then (impl_IsWay.l0 k1 l1 l1 (l1.length : Int) (wrap64 (x9_1 + 1)) a0_0 a0_1 l0_2) else (some false)) = some r:=H;have A14:=am A140;clear A140
          by_cases c15 : t564 = true
          ·subst c15;have H1 : (impl_IsWay.l0 k1 l1 l1 (l1.length : Int) (wrap64 (x9_1 + 1)) a0_0 a0_1 l0_2) = some r:=by rw [if_pos rfl] at H;exact H
           clear H;have H:=H1;clear H1;have H':=am H;clear H;have p558 : 0 ≤ (x9_1 : Int):=odt qq258;have q558 : x9_1 < (l1.length : Int):=odt qq258;obtain ⟨ad558,e558,hx558_0⟩:=Kd.at_int HR1.out x9_1 p558 q558
           cases e558
           replace hx558_0:=(ct HB.out hx558_0 :)
           replace p558:=eq_true p558;replace q558:=eq_true q558
           try go_wp2
           replace BK557:=am (blk_drew BK557.out);replace HB:=am qq374;have p560 : 0 ≤ ((ji10) : Int):=odt qq258;have q560 : (ji10) < (l1.length : Int):=odt qq258;obtain ⟨ad560,e560,hx560_0⟩:=Kd.at_int HR1.out (ji10) p560 q560;have hw560_0:=hx560_0;obtain rfl : ad558 = ad560:=(by injection e560)
           replace hx560_0:=(ct HB.out hx560_0 :)
           replace p560:=eq_true p560;replace q560:=eq_true q560;refine start_ (n:=20) (S:=fun w' => w'.cell? ⟨gb557,0,none⟩ = some (.int .i64 a0_0) ∧ w'.cell? ⟨gb557,1,none⟩ = some (.int .i64 a0_1) ∧ w'.cell? ⟨gb557,2,none⟩ = some (.slice A0_2 l0_2.length c0_2) ∧ w'.cell? (ad558.add ((ji10)).toNat) = some (.int .i64 (rd l1 (ji10)))) (ds:=[]) m0_13 (by kernel_rfl) rfl rfl ⟨(blk_cell BK557.out 0).trans rfl,(blk_cell BK557.out 1).trans rfl,(blk_cell BK557.out 2).trans rfl,(ct HB.out hw560_0 :)⟩ (fun hHeld => ?_);refine with_tabW impl_IsWay.tab4 impl_IsWay.bits4 (fun HT_ HW_ => ?_)
           generalize wr.drew = w16 at BK557 HB hx560_0 hHeld ⊢
           refine pV (i:=1) (N:=some 15) m1_13 rfl rfl qT ?_
           refine tV4 (i:=0) (N:=some 14) m2_13 rfl rfl (take_ofW HT_.out HW_.out (by kernel_rfl)) hHeld ?_
           refine one_ (i:=2) (N:=some 16) m3_13 rfl rfl (one_of HT_.out (by kernel_rfl)) (by decide) (fun K hK => ?_);refine goes_ Try.func18 (by kernel_rfl) rfl #[.agg #[.int .i64 a0_0,.int .i64 a0_1,.slice A0_2 l0_2.length c0_2],.int .i64 (rd l1 x9_1)] (by rfl) rfl rfl qq139 ?_;with_reducible refine (impl_IsOpen.calls k1 a0_0 a0_1 _ _ l0_2 (rd l1 x9_1) true _ ?side1 ?side2 A7.out).mono ?_
           (case side1 => exact qq83);(case side2 => exact qq276)
           rintro e w17 ⟨rfl,hb⟩
           refine ⟨_,rfl,?_⟩;replace BK557:=am qq314;replace HB:=am qq366;(try clear hb);(try clear hb2);(try clear hk);(try clear hi);refine hK.out _ _ ⟨(blk_cell BK557.out 0).trans rfl,(blk_cell BK557.out 1).trans rfl,(blk_cell BK557.out 2).trans rfl,(ct HB.out hw560_0 :)⟩ (fun hHeld => ?_);clear hK K;refine norm_ (a':=?_) ?_ ?_;rotate_left
           ·show Act.put _ (some 16) _ = _
            simp only [Act.put,sA,s0,s1,i64_w,i32_w];rfl
           refine pV (i:=3) (N:=some 17) m4_13 rfl rfl qT ?_
           refine pV (i:=4) (N:=some 18) m5_13 rfl rfl qT ?_
           refine pV (i:=5) (N:=some 19) m6_13 rfl rfl qT ?_
           refine pV (i:=6) (N:=some 20) m7_13 rfl rfl qT ?_
           refine pV (i:=7) (N:=some 21) m8_13 rfl rfl qT ?_
           refine pV (i:=9) (N:=some 23) #[Y,Y,Y,Y,Y,Y,Y,Y,Z,Y,Z,Z,Z,Z,Z,Z,Z,Z,Z,Z] rfl rfl qT ?_
           refine pV (i:=10) (N:=some 24) #[Y,Y,Y,Y,Y,Y,Y,Y,Z,Y,Y,Z,Z,Z,Z,Z,Z,Z,Z,Z] rfl rfl qT ?_
           refine pV (i:=11) (N:=some 25) #[Y,Y,Y,Y,Y,Y,Y,Y,Z,Y,Y,Y,Z,Z,Z,Z,Z,Z,Z,Z] rfl rfl qT ?_
           refine pV (i:=12) (N:=some 26) #[Y,Y,Y,Y,Y,Y,Y,Y,Z,Y,Y,Y,Y,Z,Z,Z,Z,Z,Z,Z] rfl rfl qT ?_
           refine pV (i:=15) (N:=some 29) #[Y,Y,Y,Y,Y,Y,Y,Y,Z,Y,Y,Y,Y,Z,Z,Y,Z,Z,Z,Z] rfl rfl qT ?_
           refine tV4 (i:=8) (N:=some 22) #[Y,Y,Y,Y,Y,Y,Y,Y,Y,Y,Y,Y,Y,Z,Z,Y,Z,Z,Z,Z] rfl rfl (take_ofW HT_.out HW_.out (by kernel_rfl)) hHeld ?_
           refine tV4 (i:=13) (N:=some 27) #[Y,Y,Y,Y,Y,Y,Y,Y,Y,Y,Y,Y,Y,Y,Z,Y,Z,Z,Z,Z] rfl rfl (take_ofW HT_.out HW_.out (by kernel_rfl)) hHeld ?_
           refine one_ (i:=14) (N:=some 28) m9_13 rfl rfl (one_of HT_.out (by kernel_rfl)) (by decide) (fun K hK => ?_);refine goes_ Try.func32 (by kernel_rfl) rfl #[.agg #[.int .i64 a0_0,.int .i64 a0_1,.slice A0_2 l0_2.length c0_2],.int .i64 (rd l1 (ji10))] (by rfl) rfl rfl qq76 ?_;with_reducible refine (impl_Near.calls k1 a0_0 a0_1 _ _ l0_2 (rd l1 (ji10)) t561 _ ?side1 ?side2 A13.out).mono ?_
           (case side1 => exact qq83);(case side2 => exact qq276)
           rintro e w18 ⟨v562,rfl,ho0,hb⟩
           refine ⟨_,rfl,?_⟩;have HO563:=am (Kd.R_lower ho0 (below_size qq113));replace BK557:=am qq314;replace HB:=am qq366;(try clear hb);(try clear hb2);(try clear hk);(try clear hi);(try clear ho0);obtain ⟨Ao19,co19,eo19⟩:=Kd.R_slice HO563.out;(first | subst eo19 | (injection eo19 with f1_ f2_ f3_;have f4_:=f1_.symm;have f5_:=f3_.symm;clear f1_ f2_ f3_;subst f4_;subst f5_));refine hK.out _ _ ⟨(blk_cell BK557.out 0).trans rfl,(blk_cell BK557.out 1).trans rfl,(blk_cell BK557.out 2).trans rfl,(ct HB.out hw560_0 :)⟩ (fun hHeld => ?_);clear hK K;refine norm_ (a':=?_) ?_ ?_;rotate_left
           ·show Act.put _ (some 28) _ = _
            simp only [Act.put,sA,s0,s1,i64_w,i32_w];rfl
           refine one_ (i:=16) (N:=some 30) m10_13 rfl rfl (one_of HT_.out (by kernel_rfl)) (by decide) (fun K hK => ?_);refine goes_ Try.func28 (by kernel_rfl) rfl #[.slice Ao19 t561.length co19,.int .i64 (rd l1 x9_1)] (by rfl) rfl rfl qq139 ?_;with_reducible refine (impl_has.calls k1 _ _ t561 (rd l1 x9_1) true _ ?side1 ?side2 A14.out).mono ?_
           (case side1 => exact qq92);(case side2 => exact (Kd.R_reads' HO563.out).2.1)
           rintro e w' ⟨rfl,⟨nd,rfl⟩⟩
           refine ⟨_,rfl,?_⟩;refine hK.out _ _ ⟨(blk_cell BK557.out 0).trans rfl,(blk_cell BK557.out 1).trans rfl,(blk_cell BK557.out 2).trans rfl,(ct HB.out hw560_0 :)⟩ (fun hHeld => ?_);clear hK K;refine norm_ (a':=?_) ?_ ?_;rotate_left
           ·show Act.put _ (some 30) _ = _
            simp only [Act.put,sA,s0,s1,i64_w,i32_w];rfl
           refine pV (i:=17) (N:=some 31) m11_13 rfl rfl qT ?_
           refine pV (i:=18) (N:=some 32) m12_13 rfl rfl qT ?_
           refine pV (i:=19) (N:=some 33) m13_13 rfl rfl qT ?_
           refine done_ (done_of HT_.out (by kernel_rfl)) ?_
           try go_wp2
           go_roundg k1
           case measure => have:=HK1.out;omega
           case rel => exact ⟨(wrap64 (x9_1 + 1)),qq260,H',⟨qq275⟩,⟨qq183⟩,⟨qq113⟩⟩
          ·replace c15:=Bool.eq_false_iff.mpr c15;subst c15;have H1 : (some false) = some r:=by rw [if_neg (show ¬ (false = true) by decide)] at H;exact H
           clear H;have H:=H1;clear H1;obtain rfl:=Option.some.inj H;have p558 : 0 ≤ (x9_1 : Int):=odt qq258;have q558 : x9_1 < (l1.length : Int):=odt qq258;obtain ⟨ad558,e558,hx558_0⟩:=Kd.at_int HR1.out x9_1 p558 q558
           cases e558
           replace hx558_0:=(ct HB.out hx558_0 :)
           replace p558:=eq_true p558;replace q558:=eq_true q558
           try go_wp2
           replace BK557:=am (blk_drew BK557.out);replace HB:=am qq374;have p560 : 0 ≤ ((ji10) : Int):=odt qq258;have q560 : (ji10) < (l1.length : Int):=odt qq258;obtain ⟨ad560,e560,hx560_0⟩:=Kd.at_int HR1.out (ji10) p560 q560;have hw560_0:=hx560_0;obtain rfl : ad558 = ad560:=(by injection e560)
           replace hx560_0:=(ct HB.out hx560_0 :)
           replace p560:=eq_true p560;replace q560:=eq_true q560;refine start_ (n:=20) (S:=fun w' => w'.cell? ⟨gb557,0,none⟩ = some (.int .i64 a0_0) ∧ w'.cell? ⟨gb557,1,none⟩ = some (.int .i64 a0_1) ∧ w'.cell? ⟨gb557,2,none⟩ = some (.slice A0_2 l0_2.length c0_2) ∧ w'.cell? (ad558.add ((ji10)).toNat) = some (.int .i64 (rd l1 (ji10)))) (ds:=[]) m0_13 (by kernel_rfl) rfl rfl ⟨(blk_cell BK557.out 0).trans rfl,(blk_cell BK557.out 1).trans rfl,(blk_cell BK557.out 2).trans rfl,(ct HB.out hw560_0 :)⟩ (fun hHeld => ?_);refine with_tabW impl_IsWay.tab4 impl_IsWay.bits4 (fun HT_ HW_ => ?_)
           generalize wr.drew = w20 at BK557 HB hx560_0 hHeld ⊢
           refine pV (i:=1) (N:=some 15) m1_13 rfl rfl qT ?_
           refine tV4 (i:=0) (N:=some 14) m2_13 rfl rfl (take_ofW HT_.out HW_.out (by kernel_rfl)) hHeld ?_
           refine one_ (i:=2) (N:=some 16) m3_13 rfl rfl (one_of HT_.out (by kernel_rfl)) (by decide) (fun K hK => ?_);refine goes_ Try.func18 (by kernel_rfl) rfl #[.agg #[.int .i64 a0_0,.int .i64 a0_1,.slice A0_2 l0_2.length c0_2],.int .i64 (rd l1 x9_1)] (by rfl) rfl rfl qq139 ?_;with_reducible refine (impl_IsOpen.calls k1 a0_0 a0_1 _ _ l0_2 (rd l1 x9_1) true _ ?side1 ?side2 A7.out).mono ?_
           (case side1 => exact qq83);(case side2 => exact qq276)
           rintro e w21 ⟨rfl,hb⟩
           refine ⟨_,rfl,?_⟩;replace BK557:=am qq314;replace HB:=am qq366;(try clear hb);(try clear hb2);(try clear hk);(try clear hi);refine hK.out _ _ ⟨(blk_cell BK557.out 0).trans rfl,(blk_cell BK557.out 1).trans rfl,(blk_cell BK557.out 2).trans rfl,(ct HB.out hw560_0 :)⟩ (fun hHeld => ?_);clear hK K;refine norm_ (a':=?_) ?_ ?_;rotate_left
           ·show Act.put _ (some 16) _ = _
            simp only [Act.put,sA,s0,s1,i64_w,i32_w];rfl
           refine pV (i:=3) (N:=some 17) m4_13 rfl rfl qT ?_
           refine pV (i:=4) (N:=some 18) m5_13 rfl rfl qT ?_
           refine pV (i:=5) (N:=some 19) m6_13 rfl rfl qT ?_
           refine pV (i:=6) (N:=some 20) m7_13 rfl rfl qT ?_
           refine pV (i:=7) (N:=some 21) m8_13 rfl rfl qT ?_
           refine pV (i:=9) (N:=some 23) #[Y,Y,Y,Y,Y,Y,Y,Y,Z,Y,Z,Z,Z,Z,Z,Z,Z,Z,Z,Z] rfl rfl qT ?_
           refine pV (i:=10) (N:=some 24) #[Y,Y,Y,Y,Y,Y,Y,Y,Z,Y,Y,Z,Z,Z,Z,Z,Z,Z,Z,Z] rfl rfl qT ?_
           refine pV (i:=11) (N:=some 25) #[Y,Y,Y,Y,Y,Y,Y,Y,Z,Y,Y,Y,Z,Z,Z,Z,Z,Z,Z,Z] rfl rfl qT ?_
           refine pV (i:=12) (N:=some 26) #[Y,Y,Y,Y,Y,Y,Y,Y,Z,Y,Y,Y,Y,Z,Z,Z,Z,Z,Z,Z] rfl rfl qT ?_
           refine pV (i:=15) (N:=some 29) #[Y,Y,Y,Y,Y,Y,Y,Y,Z,Y,Y,Y,Y,Z,Z,Y,Z,Z,Z,Z] rfl rfl qT ?_
           refine tV4 (i:=8) (N:=some 22) #[Y,Y,Y,Y,Y,Y,Y,Y,Y,Y,Y,Y,Y,Z,Z,Y,Z,Z,Z,Z] rfl rfl (take_ofW HT_.out HW_.out (by kernel_rfl)) hHeld ?_
           refine tV4 (i:=13) (N:=some 27) #[Y,Y,Y,Y,Y,Y,Y,Y,Y,Y,Y,Y,Y,Y,Z,Y,Z,Z,Z,Z] rfl rfl (take_ofW HT_.out HW_.out (by kernel_rfl)) hHeld ?_
           refine one_ (i:=14) (N:=some 28) m9_13 rfl rfl (one_of HT_.out (by kernel_rfl)) (by decide) (fun K hK => ?_);refine goes_ Try.func32 (by kernel_rfl) rfl #[.agg #[.int .i64 a0_0,.int .i64 a0_1,.slice A0_2 l0_2.length c0_2],.int .i64 (rd l1 (ji10))] (by rfl) rfl rfl qq76 ?_;with_reducible refine (impl_Near.calls k1 a0_0 a0_1 _ _ l0_2 (rd l1 (ji10)) t561 _ ?side1 ?side2 A13.out).mono ?_
           (case side1 => exact qq83);(case side2 => exact qq276)
           rintro e w22 ⟨v562,rfl,ho0,hb⟩
           refine ⟨_,rfl,?_⟩;have HO563:=am (Kd.R_lower ho0 (below_size qq113));replace BK557:=am qq314;replace HB:=am qq366;(try clear hb);(try clear hb2);(try clear hk);(try clear hi);(try clear ho0);obtain ⟨Ao23,co23,eo23⟩:=Kd.R_slice HO563.out;(first | subst eo23 | (injection eo23 with f1_ f2_ f3_;have f4_:=f1_.symm;have f5_:=f3_.symm;clear f1_ f2_ f3_;subst f4_;subst f5_));refine hK.out _ _ ⟨(blk_cell BK557.out 0).trans rfl,(blk_cell BK557.out 1).trans rfl,(blk_cell BK557.out 2).trans rfl,(ct HB.out hw560_0 :)⟩ (fun hHeld => ?_);clear hK K;refine norm_ (a':=?_) ?_ ?_;rotate_left
           ·show Act.put _ (some 28) _ = _
            simp only [Act.put,sA,s0,s1,i64_w,i32_w];rfl
           refine one_ (i:=16) (N:=some 30) m10_13 rfl rfl (one_of HT_.out (by kernel_rfl)) (by decide) (fun K hK => ?_);refine goes_ Try.func28 (by kernel_rfl) rfl #[.slice Ao23 t561.length co23,.int .i64 (rd l1 x9_1)] (by rfl) rfl rfl qq139 ?_;with_reducible refine (impl_has.calls k1 _ _ t561 (rd l1 x9_1) false _ ?side1 ?side2 A14.out).mono ?_
           (case side1 => exact qq92);(case side2 => exact (Kd.R_reads' HO563.out).2.1)
           rintro e w' ⟨rfl,⟨nd,rfl⟩⟩
           refine ⟨_,rfl,?_⟩;refine hK.out _ _ ⟨(blk_cell BK557.out 0).trans rfl,(blk_cell BK557.out 1).trans rfl,(blk_cell BK557.out 2).trans rfl,(ct HB.out hw560_0 :)⟩ (fun hHeld => ?_);clear hK K;refine norm_ (a':=?_) ?_ ?_;rotate_left
           ·show Act.put _ (some 30) _ = _
            simp only [Act.put,sA,s0,s1,i64_w,i32_w];rfl
           refine pV (i:=17) (N:=some 31) m11_13 rfl rfl qT ?_
           refine pV (i:=18) (N:=some 32) m12_13 rfl rfl qT ?_
           refine pV (i:=19) (N:=some 33) m13_13 rfl rfl qT ?_
           refine done_ (done_of HT_.out (by kernel_rfl)) ?_
           try go_wp2
           go_ret
           exact ⟨by first | rfl | (simp [errW_none,errW_some] <;> rfl) | (simp only [← hji10];first | rfl | (simp [errW_none,errW_some] <;> rfl)) | (simp [*,errW_none,errW_some] <;> rfl),qq113⟩
         ·rw [if_neg c12] at H;exact absurd H (by simp)
        ·rw [if_neg c11] at H;exact absurd H (by simp)
       ·rw [if_neg c9] at H;have c9b0 : decide (0 < x9_1) = false:=decide_eq_false c9;clear c9;have H':=am H;clear H;have p558 : 0 ≤ (x9_1 : Int):=odt qq258;have q558 : x9_1 < (l1.length : Int):=odt qq258;obtain ⟨ad558,e558,hx558_0⟩:=Kd.at_int HR1.out x9_1 p558 q558
        cases e558
        replace hx558_0:=(ct HB.out hx558_0 :)
        replace p558:=eq_true p558;replace q558:=eq_true q558
        try go_wp2
        replace BK557:=am (blk_drew BK557.out);replace HB:=am qq374;refine start_ (n:=20) (S:=fun w' => w'.cell? ⟨gb557,0,none⟩ = some (.int .i64 a0_0) ∧ w'.cell? ⟨gb557,1,none⟩ = some (.int .i64 a0_1) ∧ w'.cell? ⟨gb557,2,none⟩ = some (.slice A0_2 l0_2.length c0_2)) (ds:=[]) m0_13 (by kernel_rfl) rfl rfl ⟨(blk_cell BK557.out 0).trans rfl,(blk_cell BK557.out 1).trans rfl,(blk_cell BK557.out 2).trans rfl⟩ (fun hHeld => ?_);refine with_tabW impl_IsWay.tab4 impl_IsWay.bits4 (fun HT_ HW_ => ?_)
        generalize wr.drew = w24 at BK557 HB hHeld ⊢
        refine pV (i:=1) (N:=some 15) m1_13 rfl rfl qT ?_
        refine tV3 (i:=0) (N:=some 14) m2_13 rfl rfl (take_ofW HT_.out HW_.out (by kernel_rfl)) hHeld ?_
        refine one_ (i:=2) (N:=some 16) m3_13 rfl rfl (one_of HT_.out (by kernel_rfl)) (by decide) (fun K hK => ?_);refine goes_ Try.func18 (by kernel_rfl) rfl #[.agg #[.int .i64 a0_0,.int .i64 a0_1,.slice A0_2 l0_2.length c0_2],.int .i64 (rd l1 x9_1)] (by rfl) rfl rfl qq139 ?_;with_reducible refine (impl_IsOpen.calls k1 a0_0 a0_1 _ _ l0_2 (rd l1 x9_1) true _ ?side1 ?side2 A7.out).mono ?_
        (case side1 => exact qq83);(case side2 => exact qq276)
        rintro e w25 ⟨rfl,hb⟩
        refine ⟨_,rfl,?_⟩;replace BK557:=am qq314;replace HB:=am qq366;(try clear hb);(try clear hb2);(try clear hk);(try clear hi);refine hK.out _ _ ⟨(blk_cell BK557.out 0).trans rfl,(blk_cell BK557.out 1).trans rfl,(blk_cell BK557.out 2).trans rfl⟩ (fun hHeld => ?_);clear hK K;refine norm_ (a':=?_) ?_ ?_;rotate_left
        ·show Act.put _ (some 16) _ = _
         simp only [Act.put,sA,s0,s1,i64_w,i32_w];rfl
        refine pV (i:=3) (N:=some 17) m4_13 rfl rfl qT ?_
        refine pV (i:=4) (N:=some 18) m5_13 rfl rfl qT ?_
        refine pV (i:=5) (N:=some 19) m6_13 rfl rfl qT ?_
        refine pV (i:=6) (N:=some 20) m7_13 rfl rfl qT ?_
        refine pV (i:=7) (N:=some 21) m8_13 rfl rfl qT ?_
        refine pW (i:=8) (N:=some 22) #[Y,Y,Y,Y,Y,Y,Y,Y,Y,Z,Z,Z,Z,Z,Z,Z,Z,Z,Z,Z] rfl rfl qT ?_
        refine pW (i:=9) (N:=some 23) #[Y,Y,Y,Y,Y,Y,Y,Y,Y,Y,Z,Z,Z,Z,Z,Z,Z,Z,Z,Z] rfl rfl qT ?_
        refine pW (i:=10) (N:=some 24) #[Y,Y,Y,Y,Y,Y,Y,Y,Y,Y,Y,Z,Z,Z,Z,Z,Z,Z,Z,Z] rfl rfl qT ?_
        refine pW (i:=11) (N:=some 25) #[Y,Y,Y,Y,Y,Y,Y,Y,Y,Y,Y,Y,Z,Z,Z,Z,Z,Z,Z,Z] rfl rfl qT ?_
        refine pW (i:=12) (N:=some 26) #[Y,Y,Y,Y,Y,Y,Y,Y,Y,Y,Y,Y,Y,Z,Z,Z,Z,Z,Z,Z] rfl rfl qT ?_
        refine pW (i:=13) (N:=some 27) #[Y,Y,Y,Y,Y,Y,Y,Y,Y,Y,Y,Y,Y,Y,Z,Z,Z,Z,Z,Z] rfl rfl qT ?_
        refine pW (i:=14) (N:=some 28) #[Y,Y,Y,Y,Y,Y,Y,Y,Y,Y,Y,Y,Y,Y,Y,Z,Z,Z,Z,Z] rfl rfl qT ?_
        refine pW (i:=15) (N:=some 29) m9_13 rfl rfl qT ?_
        refine pW (i:=16) (N:=some 30) m10_13 rfl rfl qT ?_
        refine pW (i:=17) (N:=some 31) m11_13 rfl rfl qT ?_
        refine pV (i:=18) (N:=some 32) m12_13 rfl rfl qT ?_
        refine pV (i:=19) (N:=some 33) m13_13 rfl rfl qT ?_
        refine done_ (done_of HT_.out (by kernel_rfl)) ?_
        try go_wp2
        go_roundg k1
        case measure => have:=HK1.out;omega
        case rel => exact ⟨(wrap64 (x9_1 + 1)),qq260,H',⟨qq275⟩,⟨qq183⟩,⟨qq113⟩⟩
      ·replace c8:=Bool.eq_false_iff.mpr c8;subst c8;have H1 : (some false) = some r:=by rw [if_neg (show ¬ (false = true) by decide)] at H;exact H
       clear H;have H:=H1;clear H1;obtain rfl:=Option.some.inj H;have p558 : 0 ≤ (x9_1 : Int):=odt qq258;have q558 : x9_1 < (l1.length : Int):=odt qq258;obtain ⟨ad558,e558,hx558_0⟩:=Kd.at_int HR1.out x9_1 p558 q558
       cases e558
       replace hx558_0:=(ct HB.out hx558_0 :)
       replace p558:=eq_true p558;replace q558:=eq_true q558
       try go_wp2
       replace BK557:=am (blk_drew BK557.out);replace HB:=am qq374;refine start_ (n:=20) (S:=fun w' => w'.cell? ⟨gb557,0,none⟩ = some (.int .i64 a0_0) ∧ w'.cell? ⟨gb557,1,none⟩ = some (.int .i64 a0_1) ∧ w'.cell? ⟨gb557,2,none⟩ = some (.slice A0_2 l0_2.length c0_2)) (ds:=[]) m0_13 (by kernel_rfl) rfl rfl ⟨(blk_cell BK557.out 0).trans rfl,(blk_cell BK557.out 1).trans rfl,(blk_cell BK557.out 2).trans rfl⟩ (fun hHeld => ?_);refine with_tabW impl_IsWay.tab4 impl_IsWay.bits4 (fun HT_ HW_ => ?_)
       generalize wr.drew = w26 at BK557 HB hHeld ⊢
       refine pV (i:=1) (N:=some 15) m1_13 rfl rfl qT ?_
       refine tV3 (i:=0) (N:=some 14) m2_13 rfl rfl (take_ofW HT_.out HW_.out (by kernel_rfl)) hHeld ?_
       refine one_ (i:=2) (N:=some 16) m3_13 rfl rfl (one_of HT_.out (by kernel_rfl)) (by decide) (fun K hK => ?_);refine goes_ Try.func18 (by kernel_rfl) rfl #[.agg #[.int .i64 a0_0,.int .i64 a0_1,.slice A0_2 l0_2.length c0_2],.int .i64 (rd l1 x9_1)] (by rfl) rfl rfl qq139 ?_;with_reducible refine (impl_IsOpen.calls k1 a0_0 a0_1 _ _ l0_2 (rd l1 x9_1) false _ ?side1 ?side2 A7.out).mono ?_
       (case side1 => exact qq83);(case side2 => exact qq276)
       rintro e w27 ⟨rfl,hb⟩
       refine ⟨_,rfl,?_⟩;replace BK557:=am qq314;replace HB:=am qq366;(try clear hb);(try clear hb2);(try clear hk);(try clear hi);refine hK.out _ _ ⟨(blk_cell BK557.out 0).trans rfl,(blk_cell BK557.out 1).trans rfl,(blk_cell BK557.out 2).trans rfl⟩ (fun hHeld => ?_);clear hK K;refine norm_ (a':=?_) ?_ ?_;rotate_left
       ·show Act.put _ (some 16) _ = _
        simp only [Act.put,sA,s0,s1,i64_w,i32_w];rfl
       refine pV (i:=3) (N:=some 17) m4_13 rfl rfl qT ?_
       refine pV (i:=4) (N:=some 18) m5_13 rfl rfl qT ?_
       refine pW (i:=5) (N:=some 19) m6_13 rfl rfl qT ?_
       refine pW (i:=6) (N:=some 20) m7_13 rfl rfl qT ?_
       refine pW (i:=7) (N:=some 21) m8_13 rfl rfl qT ?_
       refine pW (i:=8) (N:=some 22) #[Y,Y,Y,Y,Y,Y,Y,Y,Y,Z,Z,Z,Z,Z,Z,Z,Z,Z,Z,Z] rfl rfl qT ?_
       refine pW (i:=9) (N:=some 23) #[Y,Y,Y,Y,Y,Y,Y,Y,Y,Y,Z,Z,Z,Z,Z,Z,Z,Z,Z,Z] rfl rfl qT ?_
       refine pW (i:=10) (N:=some 24) #[Y,Y,Y,Y,Y,Y,Y,Y,Y,Y,Y,Z,Z,Z,Z,Z,Z,Z,Z,Z] rfl rfl qT ?_
       refine pW (i:=11) (N:=some 25) #[Y,Y,Y,Y,Y,Y,Y,Y,Y,Y,Y,Y,Z,Z,Z,Z,Z,Z,Z,Z] rfl rfl qT ?_
       refine pW (i:=12) (N:=some 26) #[Y,Y,Y,Y,Y,Y,Y,Y,Y,Y,Y,Y,Y,Z,Z,Z,Z,Z,Z,Z] rfl rfl qT ?_
       refine pW (i:=13) (N:=some 27) #[Y,Y,Y,Y,Y,Y,Y,Y,Y,Y,Y,Y,Y,Y,Z,Z,Z,Z,Z,Z] rfl rfl qT ?_
       refine pW (i:=14) (N:=some 28) #[Y,Y,Y,Y,Y,Y,Y,Y,Y,Y,Y,Y,Y,Y,Y,Z,Z,Z,Z,Z] rfl rfl qT ?_
       refine pW (i:=15) (N:=some 29) m9_13 rfl rfl qT ?_
       refine pW (i:=16) (N:=some 30) m10_13 rfl rfl qT ?_
       refine pW (i:=17) (N:=some 31) m11_13 rfl rfl qT ?_
       refine pW (i:=18) (N:=some 32) m12_13 rfl rfl qT ?_
       refine pV (i:=19) (N:=some 33) m13_13 rfl rfl qT ?_
       refine done_ (done_of HT_.out (by kernel_rfl)) ?_
       try go_wp2
       go_ret
       exact ⟨qq216,qq113⟩
     ·rw [if_neg c6] at H;exact absurd H (by simp)
    ·rw [if_neg c5] at H;exact absurd H (by simp)
   ·rw [if_neg c4] at H;have c4b0 : decide (x9_1 < (l1.length : Int)) = false:=decide_eq_false c4;clear c4;obtain rfl:=Option.some.inj H;go_wp2
    go_ret
    exact ⟨qq216,qq113⟩

end Go.Proofs.Ytimpjccgnkbgmaa.PFnSearch
