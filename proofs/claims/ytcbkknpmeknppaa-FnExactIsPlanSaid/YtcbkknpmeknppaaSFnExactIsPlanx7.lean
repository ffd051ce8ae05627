/- Contracts of functions that the law FnExactIsPlan reaches, for its row: lines that the kit's printer wrote for this claim, set shorter by a program of this session (own.py), and what fell in Lean proved anew. Lean checks them. -/
import Derived.Test.YtcbkknpmeknppaaSFnExactIsPlanx0
import Derived.Test.YtcbkknpmeknppaaSFnExactIsPlanx4
import Derived.Test.YtcbkknpmeknppaaSFnExactIsPlanx6
namespace Go.Proofs.Ytcbkknpmeknppaa.PFnExactIsPlan
open Go.RowKit Go.Proofs.YtcbkknpmeknppaaW.PrintWords Go.Proofs.YtcbkknpmeknppaaW.PrintLast Go.Proofs.YtcbkknpmeknppaaW.PrintMore
attribute [local go_sem] max2_int min2_int max_two min_two max_three min_three max_four min_four   -- for this text's walks alone
set_option linter.unusedVariables false
set_option linter.unusedSimpArgs false

abbrev m0_7 : Array Bool := #[Z,Z,Z,Z,Z,Z,Z,Z,Z,Z,Z,Z,Z,Z,Z,Z,Z,Z]
abbrev m1_7 : Array Bool := #[Z,Y,Z,Z,Z,Z,Z,Z,Z,Z,Z,Z,Z,Z,Z,Z,Z,Z]
abbrev m2_7 : Array Bool := #[Z,Y,Y,Z,Z,Z,Z,Z,Z,Z,Z,Z,Z,Z,Z,Z,Z,Z]
abbrev m3_7 : Array Bool := #[Z,Y,Y,Y,Z,Z,Z,Z,Z,Z,Z,Z,Z,Z,Z,Z,Z,Z]
abbrev m4_7 : Array Bool := #[Z,Y,Y,Y,Y,Z,Z,Z,Z,Z,Z,Z,Z,Z,Z,Z,Z,Z]
abbrev m5_7 : Array Bool := #[Z,Y,Y,Y,Y,Y,Z,Z,Z,Z,Z,Z,Z,Z,Z,Z,Z,Z]
abbrev m6_7 : Array Bool := #[Y,Y,Y,Y,Y,Y,Z,Z,Z,Z,Z,Z,Z,Z,Z,Z,Z,Z]
abbrev m7_7 : Array Bool := #[Y,Y,Y,Y,Y,Y,Y,Z,Z,Z,Z,Z,Z,Z,Z,Z,Z,Z]
abbrev m8_7 : Array Bool := #[Y,Y,Y,Y,Y,Y,Y,Y,Z,Z,Z,Z,Z,Z,Z,Z,Z,Z]
abbrev m9_7 : Array Bool := #[Y,Y,Y,Y,Y,Y,Y,Y,Y,Z,Z,Z,Z,Z,Z,Z,Z,Z]
abbrev m10_7 : Array Bool := #[Y,Y,Y,Y,Y,Y,Y,Y,Y,Y,Z,Z,Z,Z,Z,Z,Z,Z]
abbrev m11_7 : Array Bool := #[Y,Y,Y,Y,Y,Y,Y,Y,Y,Y,Y,Z,Z,Z,Z,Z,Z,Z]
abbrev m12_7 : Array Bool := #[Y,Y,Y,Y,Y,Y,Y,Y,Y,Y,Y,Y,Z,Z,Z,Z,Z,Z]
abbrev m13_7 : Array Bool := #[Y,Y,Y,Y,Y,Y,Y,Y,Y,Y,Y,Y,Y,Z,Z,Z,Z,Z]
abbrev m14_7 : Array Bool := #[Y,Y,Y,Y,Y,Y,Y,Y,Y,Y,Y,Y,Y,Y,Z,Z,Z,Z]
abbrev m15_7 : Array Bool := #[Y,Y,Y,Y,Y,Y,Y,Y,Y,Y,Y,Y,Y,Y,Y,Z,Z,Z]
abbrev m16_7 : Array Bool := #[Y,Y,Y,Y,Y,Y,Y,Y,Y,Y,Y,Y,Y,Y,Y,Y,Z,Z]
abbrev m17_7 : Array Bool := #[Y,Y,Y,Y,Y,Y,Y,Y,Y,Y,Y,Y,Y,Y,Y,Y,Y,Z]
abbrev m18_7 : Array Bool := #[Y,Y,Y,Y,Y,Y,Y,Y,Y,Y,Y,Y,Y,Y,Y,Y,Y,Y]
/-! ### spec_IsPlan: function 55 -/
def spec_IsPlan.l0 : Nat → Int → List (S76) → Int → Int → Int → Int → List Int → Option (Bool)
 | 0,_,_,_,_,_,_,_ => none
 | k + 1,x1,x2,x7,x8,x252000,x252001,x252002 => if x8 < (x2.length : Int) then (if 0 ≤ x8 then ((spec_Days.f k x252000 x252001 x252002 x7 ((rd_T76 x2 x8).f0)).bind fun t254 => (if t254 < 0 then (some false) else ((spec_l1In.f ((rd_T76 x2 x8).f1) 0 30).bind fun t256 => (if t256 = true then (spec_IsPlan.l0 k x1 x2 ((rd_T76 x2 x8).f0) (wrap64 (x8 + 1)) x252000 x252001 x252002) else (some false))))) else (none)) else ((spec_IsOpen.f k x252000 x252001 x252002 x1).bind fun t252 => (if t252 = true then (some (decide ((x2.length : Int) ≤ 10))) else (some false)))
def spec_IsPlan.f (k : Nat) (a0_0 : Int) (a0_1 : Int) (l0_2 : List Int) (a1 : Int) (l2 : List (S76)) : Option (Bool) := spec_IsPlan.l0 k a1 l2 a1 0 a0_0 a0_1 l0_2
theorem spec_IsPlan.mono_l : ∀ k, (∀ y0 y1 y2 y3 y4 y5 y6, LeO (spec_IsPlan.l0 k y0 y1 y2 y3 y4 y5 y6) (spec_IsPlan.l0 (k + 1) y0 y1 y2 y3 y4 y5 y6))
 | 0 => fun _ _ _ _ _ _ _ r h => by simp [spec_IsPlan.l0] at h
 | k + 1 => by
  have ih0:=spec_IsPlan.mono_l k
  ·intro y0 y1 y2 y3 y4 y5 y6
   unfold spec_IsPlan.l0
   repeat' first
   | (with_reducible exact ih0 _ _ _ _ _ _ _)
   | (with_reducible exact spec_Days.mono _ _ _ _ _ _)
   | (with_reducible exact spec_IsOpen.mono _ _ _ _ _)
   | (with_reducible exact LeO.refl _)
   | (with_reducible exact LeO.none _)
   | (with_reducible refine LeO.ite ?_ ?_)
   | (with_reducible refine LeO.bind ?_ (fun _ => ?_))
   | exact ih0 _ _ _ _ _ _ _
   | exact spec_Days.mono _ _ _ _ _ _
   | exact spec_IsOpen.mono _ _ _ _ _
   | exact LeO.none _
   | refine LeO.ite ?_ ?_
   | refine LeO.bind ?_ (fun _ => ?_)
theorem spec_IsPlan.mono : ∀ a0 a1 a2 a3 a4 k, LeO (spec_IsPlan.f k a0 a1 a2 a3 a4) (spec_IsPlan.f (k + 1) a0 a1 a2 a3 a4) := by
 intro a0 a1 a2 a3 a4 k
 have ih0:=spec_IsPlan.mono_l k
 unfold spec_IsPlan.f
 repeat' first
   | (with_reducible exact ih0 _ _ _ _ _ _ _)
   | (with_reducible exact spec_Days.mono _ _ _ _ _ _)
   | (with_reducible exact spec_IsOpen.mono _ _ _ _ _)
   | (with_reducible exact LeO.refl _)
   | (with_reducible exact LeO.none _)
   | (with_reducible refine LeO.ite ?_ ?_)
   | (with_reducible refine LeO.bind ?_ (fun _ => ?_))
   | exact ih0 _ _ _ _ _ _ _
   | exact spec_Days.mono _ _ _ _ _ _
   | exact spec_IsOpen.mono _ _ _ _ _
   | exact LeO.none _
   | refine LeO.ite ?_ ?_
   | refine LeO.bind ?_ (fun _ => ?_)
def spec_IsPlan.T5 : Bool × List (List Nat × List Nat) := (true, [([], []), ([], []), ([], []), ([], []), ([2, 3], [2, 3]), ([4], [4]), ([5], [5]), ([0, 1, 6], [0, 1, 6]), ([7], [7]), ([8, 7], [8]), ([9], [9]), ([9], [9]), ([10, 11, 9], [9, 10, 11]), ([12, 9], [9, 12]), ([13, 9], [9, 13]), ([14, 9, 9], [9, 14]), ([15, 9], [9, 15]), ([9, 16], [9, 16])])
def spec_IsPlan.B5 : List Nat := [0, 0, 0, 0, 12, 28, 60, 127, 255, 511, 1023, 1023, 4095, 8191, 16383, 32767, 65535, 131071]
theorem spec_IsPlan.tab5 : rtab .any (opsOf Try.f55 5) = spec_IsPlan.T5 := by kernel_rfl
theorem spec_IsPlan.bits5 : waitsOk spec_IsPlan.T5.2 spec_IsPlan.B5 = true := by kernel_rfl
set_option maxHeartbeats 8000000 in
set_option maxRecDepth 100000 in
theorem spec_IsPlan.calls (k : Nat) (a0_0 : Int) (a0_1 : Int) (A0_2 : Option Addr) (c0_2 : Nat) (l0_2 : List Int) (a1 : Int) (A2 : Option Addr) (c2 : Nat) (l2 : List (S76)) (r : Bool) (w : World) (hr0_2 : Kd.C (Kd.int .i64) w A0_2 l0_2.length l0_2) (hc0_2 : l0_2.length ≤ c0_2) (hr2 : Kd.C k76 w A2 l2.length l2) (hc2 : l2.length ≤ c2) (h : spec_IsPlan.f k a0_0 a0_1 l0_2 a1 l2 = some r) :
  Calls Try.prog 55 #[.agg #[.int .i64 a0_0,.int .i64 a0_1,.slice A0_2 l0_2.length c0_2],.int .i64 a1,.slice A2 l2.length c2] w fun e w' => e = .returned (.bool r) ∧ Below w.heap.size w w':=by
 have hu51:=Try.underlying51;have HR0_2:=am hr0_2;have HC0_2:=am hc0_2;clear hr0_2 hc0_2;have HR2:=am hr2;have HC2:=am hc2;clear hr2 hc2;have HB:=am (Below.refl w.heap.size w);have H : (spec_IsPlan.l0 k a1 l2 a1 0 a0_0 a0_1 l0_2) = some r:=h;clear h;have H':=am H;clear H
 go_enter Try.func55,Try.ntmps55
 go_wp2_with (first | ((with_reducible refine gate_dst (N:=3) rfl ?_);(try (refine gate_guard (by rfl) ?_;dsimp only));refine box_event ?hg (N:=3) ?hd (cs:=#[.int .i64 a0_0,.int .i64 a0_1,.slice A0_2 l0_2.length c0_2]) (t:=51) ?hr ?_;(case hd => rfl);(case hg => rfl);(case hr => first | (go_simp;done) | (go_simp;rfl));intro gb251 hg w4 hbox hb;have n0_:=am (below_step (by repeat (first | (with_reducible first | exact HB.out | apply bA | apply bN | apply bD) | exact HB.out)) hb);have n1_:=am (hbox);have n2_:=am ((by rw [hg];exact (below_size (by repeat (first | (with_reducible first | exact HB.out | apply bA | apply bN | apply bD) | exact HB.out))) : w.heap.size ≤ gb251));have n3_:=am ((by rw [hg];exact (below_size (by repeat (first | (with_reducible first | exact HB.out | apply bA | apply bN | apply bD) | exact HB.out))) : w.heap.size ≤ gb251));clear HB;have HB:=n0_;have BK251:=n1_;have GW251:=n2_;have GE251:=n3_;clear n0_ n1_ n2_ n3_;clear hb hbox hg))
 go_loopg [7,8] k (fun kq v7 v8 w' => ∃ (x7_1 : Int) (x8_1 : Int),v7 = .int .i64 x7_1 ∧ v8 = .int .i64 x8_1 ∧ Aside0 (spec_IsPlan.l0 kq a1 l2 x7_1 x8_1 a0_0 a0_1 l0_2 = some r) ∧ Aside0 (kq ≤ k) ∧ Aside0 (w'.heap[gb251]? = some (.cells #[.int .i64 a0_0,.int .i64 a0_1,(.slice A0_2 l0_2.length c0_2)] 51 (0,0))) ∧ Aside0 (Below w.heap.size w w'))
 case atStart => exact ⟨(a1),(0),(by first | rfl | (simp;done) | (simp [*];done)),(by first | rfl | (simp;done) | (simp [*];done)),H',⟨Nat.le_refl _⟩,⟨by (with_reducible repeat (first | refine dN ?_ _ | refine dD ?_ | refine dA ?_ _));exact BK251.out⟩,⟨by repeat (first | (with_reducible first | exact HB.out | apply bA | apply bN | apply bD | refine below_set ?_ GE251.out) | exact HB.out)⟩⟩
 case round =>
  clear H'
  try clear c2
  try clear p2
  obtain ⟨x7_1,x8_1,rfl,rfl,HA,HK1,BK251,HB⟩:=hrel
  cases gk with
  | zero => exact absurd HA.out (by simp [spec_IsPlan.l0])
  | succ k1 =>
   have H:=HA.out;clear HA;simp only [spec_IsPlan.l0] at H
   by_cases c5 : x8_1 < (l2.length : Int)
   ·rw [if_pos c5] at H;have c5b0 : decide (x8_1 < (l2.length : Int)) = true:=decide_eq_true c5;clear c5
    by_cases c6 : 0 ≤ x8_1
    ·rw [if_pos c6] at H;have c6b0 : decide (0 ≤ x8_1) = true:=decide_eq_true c6;clear c6;replace H:=bS.mp H;obtain ⟨t254,A70,H⟩:=H;replace H : (if t254 < 0 then (some false) else ((spec_l1In.f ((rd_T76 l2 x8_1).f1) 0 30).bind fun t256 => (if t256 = true then (spec_IsPlan.l0 k1 a1 l2 ((rd_T76 l2 x8_1).f0) (wrap64 (x8_1 + 1)) a0_0 a0_1 l0_2) else (some false)))) = some r:=H;have A7:=am A70;clear A70
     by_cases c8 : t254 < 0
     ·rw [if_pos c8] at H;have c8b0 : decide (t254 < 0) = true:=decide_eq_true c8;clear c8;obtain rfl:=Option.some.inj H
      try go_wp2
      have n0_:=am (blk_drew BK251.out);have n1_:=am (below_drew1 HB.out);clear BK251;clear HB;have BK251:=n0_;have HB:=n1_;clear n0_ n1_;have p253 : 0 ≤ (x8_1 : Int):=odt (by first | (with_reducible assumption) | assumption);have q253 : x8_1 < (l2.length : Int):=odt (by first | (with_reducible assumption) | assumption);obtain ⟨ad253,e253,hx253_0,hx253_1⟩:=at_T76 HR2.out x8_1 p253 q253;have hw253_1:=hx253_1;have hw253_0:=hx253_0
      cases e253
      replace hx253_0:=(ct HB.out hx253_0 :)
      replace hx253_1:=(ct HB.out hx253_1 :)
      replace p253:=eq_true p253;replace q253:=eq_true q253;refine start_ (n:=18) (S:=fun w' => w'.cell? ⟨gb251,0,none⟩ = some (.int .i64 a0_0) ∧ w'.cell? ⟨gb251,1,none⟩ = some (.int .i64 a0_1) ∧ w'.cell? ⟨gb251,2,none⟩ = some (.slice A0_2 l0_2.length c0_2) ∧ w'.cell? (ad253.add ((x8_1).toNat * 2)) = some (.int .i64 ((rd_T76 l2 x8_1).f0)) ∧ w'.cell? ⟨(ad253.add ((x8_1).toNat * 2)).block,(ad253.add ((x8_1).toNat * 2)).off + 1,none⟩ = some (.int .i64 ((rd_T76 l2 x8_1).f1))) (ds:=[]) m0_7 (by kernel_rfl) rfl rfl ⟨(blk_cell BK251.out 0).trans rfl,(blk_cell BK251.out 1).trans rfl,(blk_cell BK251.out 2).trans rfl,(ct HB.out hw253_0 :),(ct HB.out hw253_1 :)⟩ (fun hHeld => ?_);refine with_tabW spec_IsPlan.tab5 spec_IsPlan.bits5 (fun HT_ HW_ => ?_)
      generalize wr.drew = w9 at BK251 HB hx253_0 hx253_1 hHeld ⊢
      refine pure_ (i:=1) (N:=some 17) (v:=?_) (a':=?_) m1_7 rfl rfl (any_of HT_.out (by kernel_rfl)) (fun _ _ _ h => h) (Or.inl ⟨by rfl,?_⟩) ?_ ?_;rotate_left;intro w';go_simp;(with_reducible rfl);rotate_left;simp only [Act.put,sA,s0,s1,i64_w,i32_w];rfl
      refine pure_ (i:=2) (N:=some 18) (v:=?_) (a':=?_) m2_7 rfl rfl (any_of HT_.out (by kernel_rfl)) (fun _ _ _ h => h) (Or.inl ⟨by rfl,?_⟩) ?_ ?_;rotate_left;intro w';go_simp;(with_reducible rfl);rotate_left;simp only [Act.put,sA,s0,s1,i64_w,i32_w];rfl
      refine pure_ (i:=3) (N:=some 19) (v:=?_) (a':=?_) m3_7 rfl rfl (any_of HT_.out (by kernel_rfl)) (fun _ _ _ h => h) (Or.inl ⟨by rfl,?_⟩) ?_ ?_;rotate_left;intro w';go_simp;(with_reducible rfl);rotate_left;simp only [Act.put,sA,s0,s1,i64_w,i32_w];rfl
      refine pure_ (i:=4) (N:=some 20) (v:=?_) (a':=?_) m4_7 rfl rfl (any_of HT_.out (by kernel_rfl)) (fun _ _ _ h => h) (Or.inl ⟨by rfl,?_⟩) ?_ ?_;rotate_left;intro w';go_simp;(with_reducible rfl);rotate_left;simp only [Act.put,sA,s0,s1,i64_w,i32_w];rfl
      refine pure_ (i:=5) (N:=some 21) (v:=?_) (a':=?_) m5_7 rfl rfl (any_of HT_.out (by kernel_rfl)) (fun _ _ _ h => h) (Or.inl ⟨by rfl,?_⟩) ?_ ?_;rotate_left;intro w';go_simp;(with_reducible rfl);rotate_left;simp only [Act.put,sA,s0,s1,i64_w,i32_w];rfl
      refine take_ (i:=0) (N:=some 16) (v:=?_) (a':=?_) m6_7 rfl rfl (take_ofW HT_.out HW_.out (by kernel_rfl)) (fun _ _ _ h => h) (Or.inl ⟨by rfl,?_⟩) hHeld ?_ ?_;rotate_left
      ·rintro w' ⟨s0,s1,s2,s3,s4⟩
       go_simp;with_reducible rfl
      rotate_left
      ·simp only [Act.put,sA,s0,s1,i64_w,i32_w];rfl
      refine take_ (i:=6) (N:=some 22) (v:=?_) (a':=?_) m7_7 rfl rfl (take_ofW HT_.out HW_.out (by kernel_rfl)) (fun _ _ _ h => h) (Or.inl ⟨by rfl,?_⟩) hHeld ?_ ?_;rotate_left
      ·rintro w' ⟨s0,s1,s2,s3,s4⟩
       go_simp;with_reducible rfl
      rotate_left
      ·simp only [Act.put,sA,s0,s1,i64_w,i32_w];rfl
      refine one_ (i:=7) (N:=some 23) m8_7 rfl rfl (one_of HT_.out (by kernel_rfl)) (by decide) (fun K hK => ?_);refine goes_ Try.func103 (by kernel_rfl) rfl #[.agg #[.int .i64 a0_0,.int .i64 a0_1,.slice A0_2 l0_2.length c0_2],.int .i64 x7_1,.int .i64 ((rd_T76 l2 x8_1).f0)] (by rfl) rfl rfl (by (try simp only [List.map_toArray,List.map_cons,List.map_nil]);first | done | rfl | (simp only [List.length_drop,List.length_take];rfl)) ?_;with_reducible refine (spec_Days.calls k1 a0_0 a0_1 _ _ l0_2 x7_1 ((rd_T76 l2 x8_1).f0) t254 _ ?side1 ?side2 A7.out).mono ?_
      (case side1 => repeat (first | exact (Kd.C_below HR0_2.out HB.out) | (with_reducible refine cA ?_ _) | (with_reducible refine cN ?_ _) | (with_reducible refine cD ?_)));(case side2 => exact HC0_2.out)
      rintro e w10 ⟨rfl,hb⟩
      refine ⟨_,rfl,?_⟩;have n0_:=am (blk_below (g:=gb251) (o:=.cells #[.int .i64 a0_0,.int .i64 a0_1,.slice A0_2 l0_2.length c0_2] 51 (0,0)) (by (with_reducible repeat (first | refine dN ?_ _ | refine dD ?_ | refine dA ?_ _));exact BK251.out) hb);have n1_:=am (below_step (by repeat (first | (with_reducible first | exact HB.out | apply bA | apply bN | apply bD | refine below_set ?_ GE251.out) | exact HB.out)) hb);clear BK251;clear HB;have BK251:=n0_;have HB:=n1_;clear n0_ n1_;(try clear hb);(try clear hb2);(try clear hk);(try clear hi);refine hK.out _ _ ⟨(blk_cell BK251.out 0).trans rfl,(blk_cell BK251.out 1).trans rfl,(blk_cell BK251.out 2).trans rfl,(ct HB.out hw253_0 :),(ct HB.out hw253_1 :)⟩ (fun hHeld => ?_);clear hK K;refine norm_ (a':=?_) ?_ ?_;rotate_left
      ·show Act.put _ (some 23) _ = _
       simp only [Act.put,sA,s0,s1,i64_w,i32_w];rfl
      refine pure_ (i:=8) (N:=some 24) (v:=?_) (a':=?_) m9_7 rfl rfl (any_of HT_.out (by kernel_rfl)) (fun _ _ _ h => h) (Or.inl ⟨by rfl,?_⟩) ?_ ?_;rotate_left;intro w';go_simp;(with_reducible rfl);rotate_left;simp only [Act.put,sA,s0,s1,i64_w,i32_w];rfl
      refine pure_ (i:=9) (N:=some 25) (v:=?_) (a':=?_) m10_7 rfl rfl (any_of HT_.out (by kernel_rfl)) (fun _ _ _ h => h) (Or.inl ⟨by rfl,?_⟩) ?_ ?_;rotate_left;intro w';go_simp;(with_reducible rfl);rotate_left;simp only [Act.put,sA,s0,s1,i64_w,i32_w];rfl
      refine pure_ (i:=10) (N:=some 26) (v:=undef) (a':=?_) m11_7 rfl rfl (any_of HT_.out (by kernel_rfl)) (fun _ _ _ h => h) (Or.inr ⟨by rfl,rfl⟩) ?_ ?_;rotate_left
      ·simp only [Act.put,sA,s0,s1,i64_w,i32_w];rfl
      refine pure_ (i:=11) (N:=some 27) (v:=undef) (a':=?_) m12_7 rfl rfl (any_of HT_.out (by kernel_rfl)) (fun _ _ _ h => h) (Or.inr ⟨by rfl,rfl⟩) ?_ ?_;rotate_left
      ·simp only [Act.put,sA,s0,s1,i64_w,i32_w];rfl
      refine pure_ (i:=12) (N:=some 28) (v:=undef) (a':=?_) m13_7 rfl rfl (any_of HT_.out (by kernel_rfl)) (fun _ _ _ h => h) (Or.inr ⟨by rfl,rfl⟩) ?_ ?_;rotate_left
      ·simp only [Act.put,sA,s0,s1,i64_w,i32_w];rfl
      refine pure_ (i:=13) (N:=some 29) (v:=undef) (a':=?_) m14_7 rfl rfl (any_of HT_.out (by kernel_rfl)) (fun _ _ _ h => h) (Or.inr ⟨by rfl,rfl⟩) ?_ ?_;rotate_left
      ·simp only [Act.put,sA,s0,s1,i64_w,i32_w];rfl
      refine pure_ (i:=14) (N:=some 30) (v:=undef) (a':=?_) m15_7 rfl rfl (any_of HT_.out (by kernel_rfl)) (fun _ _ _ h => h) (Or.inr ⟨by rfl,rfl⟩) ?_ ?_;rotate_left
      ·simp only [Act.put,sA,s0,s1,i64_w,i32_w];rfl
      refine pure_ (i:=15) (N:=some 31) (v:=undef) (a':=?_) m16_7 rfl rfl (any_of HT_.out (by kernel_rfl)) (fun _ _ _ h => h) (Or.inr ⟨by rfl,rfl⟩) ?_ ?_;rotate_left
      ·simp only [Act.put,sA,s0,s1,i64_w,i32_w];rfl
      refine pure_ (i:=16) (N:=some 32) (v:=undef) (a':=?_) m17_7 rfl rfl (any_of HT_.out (by kernel_rfl)) (fun _ _ _ h => h) (Or.inr ⟨by rfl,rfl⟩) ?_ ?_;rotate_left
      ·simp only [Act.put,sA,s0,s1,i64_w,i32_w];rfl
      refine pure_ (i:=17) (N:=some 33) (v:=?_) (a':=?_) m18_7 rfl rfl (any_of HT_.out (by kernel_rfl)) (fun _ _ _ h => h) (Or.inl ⟨by rfl,?_⟩) ?_ ?_;rotate_left;intro w';go_simp;(with_reducible rfl);rotate_left;simp only [Act.put,sA,s0,s1,i64_w,i32_w];rfl
      refine done_ (done_of HT_.out (by kernel_rfl)) ?_
      try go_wp2
      go_ret
      exact ⟨by first | rfl | (simp [errW_none,errW_some] <;> rfl) | (simp [*,errW_none,errW_some] <;> rfl),by repeat (first | (with_reducible first | exact HB.out | apply bA | apply bN | apply bD | refine below_set ?_ GE251.out) | exact HB.out)⟩
     ·rw [if_neg c8] at H;have c8b0 : decide (t254 < 0) = false:=decide_eq_false c8;clear c8;replace H:=bS.mp H;obtain ⟨t256,A110,H⟩:=H;replace H : (if t256 = true then (spec_IsPlan.l0 k1 a1 l2 ((rd_T76 l2 x8_1).f0) (wrap64 (x8_1 + 1)) a0_0 a0_1 l0_2) else (some false)) = some r:=H;have A11:=am A110;clear A110
      by_cases c12 : t256 = true
      ·subst c12;have H1 : (spec_IsPlan.l0 k1 a1 l2 ((rd_T76 l2 x8_1).f0) (wrap64 (x8_1 + 1)) a0_0 a0_1 l0_2) = some r:=by rw [if_pos rfl] at H;exact H
       clear H;have H:=H1;clear H1;have H':=am H;clear H
       try go_wp2
       have n0_:=am (blk_drew BK251.out);have n1_:=am (below_drew1 HB.out);clear BK251;clear HB;have BK251:=n0_;have HB:=n1_;clear n0_ n1_;have p253 : 0 ≤ (x8_1 : Int):=odt (by first | (with_reducible assumption) | assumption);have q253 : x8_1 < (l2.length : Int):=odt (by first | (with_reducible assumption) | assumption);obtain ⟨ad253,e253,hx253_0,hx253_1⟩:=at_T76 HR2.out x8_1 p253 q253;have hw253_1:=hx253_1;have hw253_0:=hx253_0
       cases e253
       replace hx253_0:=(ct HB.out hx253_0 :)
       replace hx253_1:=(ct HB.out hx253_1 :)
       replace p253:=eq_true p253;replace q253:=eq_true q253;have p255 : 0 ≤ (x8_1 : Int):=odt (by first | (with_reducible assumption) | assumption);have q255 : x8_1 < (l2.length : Int):=odt (by first | (with_reducible assumption) | assumption);obtain ⟨ad255,e255,hx255_0,hx255_1⟩:=at_T76 HR2.out x8_1 p255 q255;have hw255_1:=hx255_1;have hw255_0:=hx255_0;obtain rfl : ad253 = ad255:=(by injection e255)
       replace hx255_0:=(ct HB.out hx255_0 :)
       replace hx255_1:=(ct HB.out hx255_1 :)
       replace p255:=eq_true p255;replace q255:=eq_true q255;refine start_ (n:=18) (S:=fun w' => w'.cell? ⟨gb251,0,none⟩ = some (.int .i64 a0_0) ∧ w'.cell? ⟨gb251,1,none⟩ = some (.int .i64 a0_1) ∧ w'.cell? ⟨gb251,2,none⟩ = some (.slice A0_2 l0_2.length c0_2) ∧ w'.cell? (ad253.add ((x8_1).toNat * 2)) = some (.int .i64 ((rd_T76 l2 x8_1).f0)) ∧ w'.cell? ⟨(ad253.add ((x8_1).toNat * 2)).block,(ad253.add ((x8_1).toNat * 2)).off + 1,none⟩ = some (.int .i64 ((rd_T76 l2 x8_1).f1)) ∧ w'.cell? (ad253.add ((x8_1).toNat * 2)) = some (.int .i64 ((rd_T76 l2 x8_1).f0)) ∧ w'.cell? ⟨(ad253.add ((x8_1).toNat * 2)).block,(ad253.add ((x8_1).toNat * 2)).off + 1,none⟩ = some (.int .i64 ((rd_T76 l2 x8_1).f1))) (ds:=[]) m0_7 (by kernel_rfl) rfl rfl ⟨(blk_cell BK251.out 0).trans rfl,(blk_cell BK251.out 1).trans rfl,(blk_cell BK251.out 2).trans rfl,(ct HB.out hw253_0 :),(ct HB.out hw253_1 :),(ct HB.out hw255_0 :),(ct HB.out hw255_1 :)⟩ (fun hHeld => ?_);refine with_tabW spec_IsPlan.tab5 spec_IsPlan.bits5 (fun HT_ HW_ => ?_)
       generalize wr.drew = w13 at BK251 HB hx253_0 hx253_1 hx255_0 hx255_1 hHeld ⊢
       refine pure_ (i:=1) (N:=some 17) (v:=?_) (a':=?_) m1_7 rfl rfl (any_of HT_.out (by kernel_rfl)) (fun _ _ _ h => h) (Or.inl ⟨by rfl,?_⟩) ?_ ?_;rotate_left;intro w';go_simp;(with_reducible rfl);rotate_left;simp only [Act.put,sA,s0,s1,i64_w,i32_w];rfl
       refine pure_ (i:=2) (N:=some 18) (v:=?_) (a':=?_) m2_7 rfl rfl (any_of HT_.out (by kernel_rfl)) (fun _ _ _ h => h) (Or.inl ⟨by rfl,?_⟩) ?_ ?_;rotate_left;intro w';go_simp;(with_reducible rfl);rotate_left;simp only [Act.put,sA,s0,s1,i64_w,i32_w];rfl
       refine pure_ (i:=3) (N:=some 19) (v:=?_) (a':=?_) m3_7 rfl rfl (any_of HT_.out (by kernel_rfl)) (fun _ _ _ h => h) (Or.inl ⟨by rfl,?_⟩) ?_ ?_;rotate_left;intro w';go_simp;(with_reducible rfl);rotate_left;simp only [Act.put,sA,s0,s1,i64_w,i32_w];rfl
       refine pure_ (i:=4) (N:=some 20) (v:=?_) (a':=?_) m4_7 rfl rfl (any_of HT_.out (by kernel_rfl)) (fun _ _ _ h => h) (Or.inl ⟨by rfl,?_⟩) ?_ ?_;rotate_left;intro w';go_simp;(with_reducible rfl);rotate_left;simp only [Act.put,sA,s0,s1,i64_w,i32_w];rfl
       refine pure_ (i:=5) (N:=some 21) (v:=?_) (a':=?_) m5_7 rfl rfl (any_of HT_.out (by kernel_rfl)) (fun _ _ _ h => h) (Or.inl ⟨by rfl,?_⟩) ?_ ?_;rotate_left;intro w';go_simp;(with_reducible rfl);rotate_left;simp only [Act.put,sA,s0,s1,i64_w,i32_w];rfl
       refine take_ (i:=0) (N:=some 16) (v:=?_) (a':=?_) m6_7 rfl rfl (take_ofW HT_.out HW_.out (by kernel_rfl)) (fun _ _ _ h => h) (Or.inl ⟨by rfl,?_⟩) hHeld ?_ ?_;rotate_left
       ·rintro w' ⟨s0,s1,s2,s3,s4,s5,s6⟩
        go_simp;with_reducible rfl
       rotate_left
       ·simp only [Act.put,sA,s0,s1,i64_w,i32_w];rfl
       refine take_ (i:=6) (N:=some 22) (v:=?_) (a':=?_) m7_7 rfl rfl (take_ofW HT_.out HW_.out (by kernel_rfl)) (fun _ _ _ h => h) (Or.inl ⟨by rfl,?_⟩) hHeld ?_ ?_;rotate_left
       ·rintro w' ⟨s0,s1,s2,s3,s4,s5,s6⟩
        go_simp;with_reducible rfl
       rotate_left
       ·simp only [Act.put,sA,s0,s1,i64_w,i32_w];rfl
       refine one_ (i:=7) (N:=some 23) m8_7 rfl rfl (one_of HT_.out (by kernel_rfl)) (by decide) (fun K hK => ?_);refine goes_ Try.func103 (by kernel_rfl) rfl #[.agg #[.int .i64 a0_0,.int .i64 a0_1,.slice A0_2 l0_2.length c0_2],.int .i64 x7_1,.int .i64 ((rd_T76 l2 x8_1).f0)] (by rfl) rfl rfl (by (try simp only [List.map_toArray,List.map_cons,List.map_nil]);first | done | rfl | (simp only [List.length_drop,List.length_take];rfl)) ?_;with_reducible refine (spec_Days.calls k1 a0_0 a0_1 _ _ l0_2 x7_1 ((rd_T76 l2 x8_1).f0) t254 _ ?side1 ?side2 A7.out).mono ?_
       (case side1 => repeat (first | exact (Kd.C_below HR0_2.out HB.out) | (with_reducible refine cA ?_ _) | (with_reducible refine cN ?_ _) | (with_reducible refine cD ?_)));(case side2 => exact HC0_2.out)
       rintro e w14 ⟨rfl,hb⟩
       refine ⟨_,rfl,?_⟩;have n0_:=am (blk_below (g:=gb251) (o:=.cells #[.int .i64 a0_0,.int .i64 a0_1,.slice A0_2 l0_2.length c0_2] 51 (0,0)) (by (with_reducible repeat (first | refine dN ?_ _ | refine dD ?_ | refine dA ?_ _));exact BK251.out) hb);have n1_:=am (below_step (by repeat (first | (with_reducible first | exact HB.out | apply bA | apply bN | apply bD | refine below_set ?_ GE251.out) | exact HB.out)) hb);clear BK251;clear HB;have BK251:=n0_;have HB:=n1_;clear n0_ n1_;(try clear hb);(try clear hb2);(try clear hk);(try clear hi);refine hK.out _ _ ⟨(blk_cell BK251.out 0).trans rfl,(blk_cell BK251.out 1).trans rfl,(blk_cell BK251.out 2).trans rfl,(ct HB.out hw253_0 :),(ct HB.out hw253_1 :),(ct HB.out hw255_0 :),(ct HB.out hw255_1 :)⟩ (fun hHeld => ?_);clear hK K;refine norm_ (a':=?_) ?_ ?_;rotate_left
       ·show Act.put _ (some 23) _ = _
        simp only [Act.put,sA,s0,s1,i64_w,i32_w];rfl
       refine pure_ (i:=8) (N:=some 24) (v:=?_) (a':=?_) m9_7 rfl rfl (any_of HT_.out (by kernel_rfl)) (fun _ _ _ h => h) (Or.inl ⟨by rfl,?_⟩) ?_ ?_;rotate_left;intro w';go_simp;(with_reducible rfl);rotate_left;simp only [Act.put,sA,s0,s1,i64_w,i32_w];rfl
       refine pure_ (i:=9) (N:=some 25) (v:=?_) (a':=?_) m10_7 rfl rfl (any_of HT_.out (by kernel_rfl)) (fun _ _ _ h => h) (Or.inl ⟨by rfl,?_⟩) ?_ ?_;rotate_left;intro w';go_simp;(with_reducible rfl);rotate_left;simp only [Act.put,sA,s0,s1,i64_w,i32_w];rfl
       refine pure_ (i:=10) (N:=some 26) (v:=?_) (a':=?_) m11_7 rfl rfl (any_of HT_.out (by kernel_rfl)) (fun _ _ _ h => h) (Or.inl ⟨by rfl,?_⟩) ?_ ?_;rotate_left;intro w';go_simp;(with_reducible rfl);rotate_left;simp only [Act.put,sA,s0,s1,i64_w,i32_w];rfl
       refine pure_ (i:=11) (N:=some 27) (v:=?_) (a':=?_) m12_7 rfl rfl (any_of HT_.out (by kernel_rfl)) (fun _ _ _ h => h) (Or.inl ⟨by rfl,?_⟩) ?_ ?_;rotate_left;intro w';go_simp;(with_reducible rfl);rotate_left;simp only [Act.put,sA,s0,s1,i64_w,i32_w];rfl
       refine pure_ (i:=12) (N:=some 28) (v:=?_) (a':=?_) m13_7 rfl rfl (any_of HT_.out (by kernel_rfl)) (fun _ _ _ h => h) (Or.inl ⟨by rfl,?_⟩) ?_ ?_;rotate_left;intro w';go_simp;(with_reducible rfl);rotate_left;simp only [Act.put,sA,s0,s1,i64_w,i32_w];rfl
       refine pure_ (i:=13) (N:=some 29) (v:=?_) (a':=?_) m14_7 rfl rfl (any_of HT_.out (by kernel_rfl)) (fun _ _ _ h => h) (Or.inl ⟨by rfl,?_⟩) ?_ ?_;rotate_left;intro w';go_simp;(with_reducible rfl);rotate_left;simp only [Act.put,sA,s0,s1,i64_w,i32_w];rfl
       refine take_ (i:=14) (N:=some 30) (v:=?_) (a':=?_) m15_7 rfl rfl (take_ofW HT_.out HW_.out (by kernel_rfl)) (fun _ _ _ h => h) (Or.inl ⟨by rfl,?_⟩) hHeld ?_ ?_;rotate_left
       ·rintro w' ⟨s0,s1,s2,s3,s4,s5,s6⟩
        go_simp;with_reducible rfl
       rotate_left
       ·simp only [Act.put,sA,s0,s1,i64_w,i32_w];rfl
       refine one_ (i:=15) (N:=some 31) m16_7 rfl rfl (one_of HT_.out (by kernel_rfl)) (by decide) (fun K hK => ?_);refine goes_ Try.func104 (by kernel_rfl) rfl #[.int .i64 ((rd_T76 l2 x8_1).f1),.int .i64 0,.int .i64 30] (by rfl) rfl rfl (by (try simp only [List.map_toArray,List.map_cons,List.map_nil]);first | done | rfl | (simp only [List.length_drop,List.length_take];rfl)) ?_;with_reducible refine (spec_l1In.calls ((rd_T76 l2 x8_1).f1) 0 30 true _ A11.out).mono ?_
       rintro e w' ⟨rfl,⟨nd,rfl⟩⟩
       refine ⟨_,rfl,?_⟩;refine hK.out _ _ ⟨(blk_cell BK251.out 0).trans rfl,(blk_cell BK251.out 1).trans rfl,(blk_cell BK251.out 2).trans rfl,(ct HB.out hw253_0 :),(ct HB.out hw253_1 :),(ct HB.out hw255_0 :),(ct HB.out hw255_1 :)⟩ (fun hHeld => ?_);clear hK K;refine norm_ (a':=?_) ?_ ?_;rotate_left
       ·show Act.put _ (some 31) _ = _
        simp only [Act.put,sA,s0,s1,i64_w,i32_w];rfl
       refine pure_ (i:=16) (N:=some 32) (v:=?_) (a':=?_) m17_7 rfl rfl (any_of HT_.out (by kernel_rfl)) (fun _ _ _ h => h) (Or.inl ⟨by rfl,?_⟩) ?_ ?_;rotate_left;intro w';go_simp;(with_reducible rfl);rotate_left;simp only [Act.put,sA,s0,s1,i64_w,i32_w];rfl
       refine pure_ (i:=17) (N:=some 33) (v:=?_) (a':=?_) m18_7 rfl rfl (any_of HT_.out (by kernel_rfl)) (fun _ _ _ h => h) (Or.inl ⟨by rfl,?_⟩) ?_ ?_;rotate_left;intro w';go_simp;(with_reducible rfl);rotate_left;simp only [Act.put,sA,s0,s1,i64_w,i32_w];rfl
       refine done_ (done_of HT_.out (by kernel_rfl)) ?_;have p257 : 0 ≤ (x8_1 : Int):=odt (by first | (with_reducible assumption) | assumption);have q257 : x8_1 < (l2.length : Int):=odt (by first | (with_reducible assumption) | assumption);obtain ⟨ad257,e257,hx257_0,hx257_1⟩:=at_T76 HR2.out x8_1 p257 q257;obtain rfl : ad253 = ad257:=(by injection e257)
       replace hx257_0:=(ct HB.out hx257_0 :)
       replace hx257_1:=(ct HB.out hx257_1 :)
       replace p257:=eq_true p257;replace q257:=eq_true q257
       try go_wp2
       go_roundg k1
       case measure => have:=HK1.out;omega
       case rel => exact ⟨((rd_T76 l2 x8_1).f0),(wrap64 (x8_1 + 1)),(by first | rfl | (simp;done) | (simp [*];done)),(by first | rfl | (simp;done) | (simp [*];done)),H',⟨by have:=HK1.out;omega⟩,⟨by (with_reducible repeat (first | refine dN ?_ _ | refine dD ?_ | refine dA ?_ _));exact BK251.out⟩,⟨by repeat (first | (with_reducible first | exact HB.out | apply bA | apply bN | apply bD | refine below_set ?_ GE251.out) | exact HB.out)⟩⟩
      ·replace c12:=Bool.eq_false_iff.mpr c12;subst c12;have H1 : (some false) = some r:=by rw [if_neg (show ¬ (false = true) by decide)] at H;exact H
       clear H;have H:=H1;clear H1;obtain rfl:=Option.some.inj H
       try go_wp2
       have n0_:=am (blk_drew BK251.out);have n1_:=am (below_drew1 HB.out);clear BK251;clear HB;have BK251:=n0_;have HB:=n1_;clear n0_ n1_;have p253 : 0 ≤ (x8_1 : Int):=odt (by first | (with_reducible assumption) | assumption);have q253 : x8_1 < (l2.length : Int):=odt (by first | (with_reducible assumption) | assumption);obtain ⟨ad253,e253,hx253_0,hx253_1⟩:=at_T76 HR2.out x8_1 p253 q253;have hw253_1:=hx253_1;have hw253_0:=hx253_0
       cases e253
       replace hx253_0:=(ct HB.out hx253_0 :)
       replace hx253_1:=(ct HB.out hx253_1 :)
       replace p253:=eq_true p253;replace q253:=eq_true q253;have p255 : 0 ≤ (x8_1 : Int):=odt (by first | (with_reducible assumption) | assumption);have q255 : x8_1 < (l2.length : Int):=odt (by first | (with_reducible assumption) | assumption);obtain ⟨ad255,e255,hx255_0,hx255_1⟩:=at_T76 HR2.out x8_1 p255 q255;have hw255_1:=hx255_1;have hw255_0:=hx255_0;obtain rfl : ad253 = ad255:=(by injection e255)
       replace hx255_0:=(ct HB.out hx255_0 :)
       replace hx255_1:=(ct HB.out hx255_1 :)
       replace p255:=eq_true p255;replace q255:=eq_true q255;refine start_ (n:=18) (S:=fun w' => w'.cell? ⟨gb251,0,none⟩ = some (.int .i64 a0_0) ∧ w'.cell? ⟨gb251,1,none⟩ = some (.int .i64 a0_1) ∧ w'.cell? ⟨gb251,2,none⟩ = some (.slice A0_2 l0_2.length c0_2) ∧ w'.cell? (ad253.add ((x8_1).toNat * 2)) = some (.int .i64 ((rd_T76 l2 x8_1).f0)) ∧ w'.cell? ⟨(ad253.add ((x8_1).toNat * 2)).block,(ad253.add ((x8_1).toNat * 2)).off + 1,none⟩ = some (.int .i64 ((rd_T76 l2 x8_1).f1)) ∧ w'.cell? (ad253.add ((x8_1).toNat * 2)) = some (.int .i64 ((rd_T76 l2 x8_1).f0)) ∧ w'.cell? ⟨(ad253.add ((x8_1).toNat * 2)).block,(ad253.add ((x8_1).toNat * 2)).off + 1,none⟩ = some (.int .i64 ((rd_T76 l2 x8_1).f1))) (ds:=[]) m0_7 (by kernel_rfl) rfl rfl ⟨(blk_cell BK251.out 0).trans rfl,(blk_cell BK251.out 1).trans rfl,(blk_cell BK251.out 2).trans rfl,(ct HB.out hw253_0 :),(ct HB.out hw253_1 :),(ct HB.out hw255_0 :),(ct HB.out hw255_1 :)⟩ (fun hHeld => ?_);refine with_tabW spec_IsPlan.tab5 spec_IsPlan.bits5 (fun HT_ HW_ => ?_)
       generalize wr.drew = w15 at BK251 HB hx253_0 hx253_1 hx255_0 hx255_1 hHeld ⊢
       refine pure_ (i:=1) (N:=some 17) (v:=?_) (a':=?_) m1_7 rfl rfl (any_of HT_.out (by kernel_rfl)) (fun _ _ _ h => h) (Or.inl ⟨by rfl,?_⟩) ?_ ?_;rotate_left;intro w';go_simp;(with_reducible rfl);rotate_left;simp only [Act.put,sA,s0,s1,i64_w,i32_w];rfl
       refine pure_ (i:=2) (N:=some 18) (v:=?_) (a':=?_) m2_7 rfl rfl (any_of HT_.out (by kernel_rfl)) (fun _ _ _ h => h) (Or.inl ⟨by rfl,?_⟩) ?_ ?_;rotate_left;intro w';go_simp;(with_reducible rfl);rotate_left;simp only [Act.put,sA,s0,s1,i64_w,i32_w];rfl
       refine pure_ (i:=3) (N:=some 19) (v:=?_) (a':=?_) m3_7 rfl rfl (any_of HT_.out (by kernel_rfl)) (fun _ _ _ h => h) (Or.inl ⟨by rfl,?_⟩) ?_ ?_;rotate_left;intro w';go_simp;(with_reducible rfl);rotate_left;simp only [Act.put,sA,s0,s1,i64_w,i32_w];rfl
       refine pure_ (i:=4) (N:=some 20) (v:=?_) (a':=?_) m4_7 rfl rfl (any_of HT_.out (by kernel_rfl)) (fun _ _ _ h => h) (Or.inl ⟨by rfl,?_⟩) ?_ ?_;rotate_left;intro w';go_simp;(with_reducible rfl);rotate_left;simp only [Act.put,sA,s0,s1,i64_w,i32_w];rfl
       refine pure_ (i:=5) (N:=some 21) (v:=?_) (a':=?_) m5_7 rfl rfl (any_of HT_.out (by kernel_rfl)) (fun _ _ _ h => h) (Or.inl ⟨by rfl,?_⟩) ?_ ?_;rotate_left;intro w';go_simp;(with_reducible rfl);rotate_left;simp only [Act.put,sA,s0,s1,i64_w,i32_w];rfl
       refine take_ (i:=0) (N:=some 16) (v:=?_) (a':=?_) m6_7 rfl rfl (take_ofW HT_.out HW_.out (by kernel_rfl)) (fun _ _ _ h => h) (Or.inl ⟨by rfl,?_⟩) hHeld ?_ ?_;rotate_left
       ·rintro w' ⟨s0,s1,s2,s3,s4,s5,s6⟩
        go_simp;with_reducible rfl
       rotate_left
       ·simp only [Act.put,sA,s0,s1,i64_w,i32_w];rfl
       refine take_ (i:=6) (N:=some 22) (v:=?_) (a':=?_) m7_7 rfl rfl (take_ofW HT_.out HW_.out (by kernel_rfl)) (fun _ _ _ h => h) (Or.inl ⟨by rfl,?_⟩) hHeld ?_ ?_;rotate_left
       ·rintro w' ⟨s0,s1,s2,s3,s4,s5,s6⟩
        go_simp;with_reducible rfl
       rotate_left
       ·simp only [Act.put,sA,s0,s1,i64_w,i32_w];rfl
       refine one_ (i:=7) (N:=some 23) m8_7 rfl rfl (one_of HT_.out (by kernel_rfl)) (by decide) (fun K hK => ?_);refine goes_ Try.func103 (by kernel_rfl) rfl #[.agg #[.int .i64 a0_0,.int .i64 a0_1,.slice A0_2 l0_2.length c0_2],.int .i64 x7_1,.int .i64 ((rd_T76 l2 x8_1).f0)] (by rfl) rfl rfl (by (try simp only [List.map_toArray,List.map_cons,List.map_nil]);first | done | rfl | (simp only [List.length_drop,List.length_take];rfl)) ?_;with_reducible refine (spec_Days.calls k1 a0_0 a0_1 _ _ l0_2 x7_1 ((rd_T76 l2 x8_1).f0) t254 _ ?side1 ?side2 A7.out).mono ?_
       (case side1 => repeat (first | exact (Kd.C_below HR0_2.out HB.out) | (with_reducible refine cA ?_ _) | (with_reducible refine cN ?_ _) | (with_reducible refine cD ?_)));(case side2 => exact HC0_2.out)
       rintro e w16 ⟨rfl,hb⟩
       refine ⟨_,rfl,?_⟩;have n0_:=am (blk_below (g:=gb251) (o:=.cells #[.int .i64 a0_0,.int .i64 a0_1,.slice A0_2 l0_2.length c0_2] 51 (0,0)) (by (with_reducible repeat (first | refine dN ?_ _ | refine dD ?_ | refine dA ?_ _));exact BK251.out) hb);have n1_:=am (below_step (by repeat (first | (with_reducible first | exact HB.out | apply bA | apply bN | apply bD | refine below_set ?_ GE251.out) | exact HB.out)) hb);clear BK251;clear HB;have BK251:=n0_;have HB:=n1_;clear n0_ n1_;(try clear hb);(try clear hb2);(try clear hk);(try clear hi);refine hK.out _ _ ⟨(blk_cell BK251.out 0).trans rfl,(blk_cell BK251.out 1).trans rfl,(blk_cell BK251.out 2).trans rfl,(ct HB.out hw253_0 :),(ct HB.out hw253_1 :),(ct HB.out hw255_0 :),(ct HB.out hw255_1 :)⟩ (fun hHeld => ?_);clear hK K;refine norm_ (a':=?_) ?_ ?_;rotate_left
       ·show Act.put _ (some 23) _ = _
        simp only [Act.put,sA,s0,s1,i64_w,i32_w];rfl
       refine pure_ (i:=8) (N:=some 24) (v:=?_) (a':=?_) m9_7 rfl rfl (any_of HT_.out (by kernel_rfl)) (fun _ _ _ h => h) (Or.inl ⟨by rfl,?_⟩) ?_ ?_;rotate_left;intro w';go_simp;(with_reducible rfl);rotate_left;simp only [Act.put,sA,s0,s1,i64_w,i32_w];rfl
       refine pure_ (i:=9) (N:=some 25) (v:=?_) (a':=?_) m10_7 rfl rfl (any_of HT_.out (by kernel_rfl)) (fun _ _ _ h => h) (Or.inl ⟨by rfl,?_⟩) ?_ ?_;rotate_left;intro w';go_simp;(with_reducible rfl);rotate_left;simp only [Act.put,sA,s0,s1,i64_w,i32_w];rfl
       refine pure_ (i:=10) (N:=some 26) (v:=?_) (a':=?_) m11_7 rfl rfl (any_of HT_.out (by kernel_rfl)) (fun _ _ _ h => h) (Or.inl ⟨by rfl,?_⟩) ?_ ?_;rotate_left;intro w';go_simp;(with_reducible rfl);rotate_left;simp only [Act.put,sA,s0,s1,i64_w,i32_w];rfl
       refine pure_ (i:=11) (N:=some 27) (v:=?_) (a':=?_) m12_7 rfl rfl (any_of HT_.out (by kernel_rfl)) (fun _ _ _ h => h) (Or.inl ⟨by rfl,?_⟩) ?_ ?_;rotate_left;intro w';go_simp;(with_reducible rfl);rotate_left;simp only [Act.put,sA,s0,s1,i64_w,i32_w];rfl
       refine pure_ (i:=12) (N:=some 28) (v:=?_) (a':=?_) m13_7 rfl rfl (any_of HT_.out (by kernel_rfl)) (fun _ _ _ h => h) (Or.inl ⟨by rfl,?_⟩) ?_ ?_;rotate_left;intro w';go_simp;(with_reducible rfl);rotate_left;simp only [Act.put,sA,s0,s1,i64_w,i32_w];rfl
       refine pure_ (i:=13) (N:=some 29) (v:=?_) (a':=?_) m14_7 rfl rfl (any_of HT_.out (by kernel_rfl)) (fun _ _ _ h => h) (Or.inl ⟨by rfl,?_⟩) ?_ ?_;rotate_left;intro w';go_simp;(with_reducible rfl);rotate_left;simp only [Act.put,sA,s0,s1,i64_w,i32_w];rfl
       refine take_ (i:=14) (N:=some 30) (v:=?_) (a':=?_) m15_7 rfl rfl (take_ofW HT_.out HW_.out (by kernel_rfl)) (fun _ _ _ h => h) (Or.inl ⟨by rfl,?_⟩) hHeld ?_ ?_;rotate_left
       ·rintro w' ⟨s0,s1,s2,s3,s4,s5,s6⟩
        go_simp;with_reducible rfl
       rotate_left
       ·simp only [Act.put,sA,s0,s1,i64_w,i32_w];rfl
       refine one_ (i:=15) (N:=some 31) m16_7 rfl rfl (one_of HT_.out (by kernel_rfl)) (by decide) (fun K hK => ?_);refine goes_ Try.func104 (by kernel_rfl) rfl #[.int .i64 ((rd_T76 l2 x8_1).f1),.int .i64 0,.int .i64 30] (by rfl) rfl rfl (by (try simp only [List.map_toArray,List.map_cons,List.map_nil]);first | done | rfl | (simp only [List.length_drop,List.length_take];rfl)) ?_;with_reducible refine (spec_l1In.calls ((rd_T76 l2 x8_1).f1) 0 30 false _ A11.out).mono ?_
       rintro e w' ⟨rfl,⟨nd,rfl⟩⟩
       refine ⟨_,rfl,?_⟩;refine hK.out _ _ ⟨(blk_cell BK251.out 0).trans rfl,(blk_cell BK251.out 1).trans rfl,(blk_cell BK251.out 2).trans rfl,(ct HB.out hw253_0 :),(ct HB.out hw253_1 :),(ct HB.out hw255_0 :),(ct HB.out hw255_1 :)⟩ (fun hHeld => ?_);clear hK K;refine norm_ (a':=?_) ?_ ?_;rotate_left
       ·show Act.put _ (some 31) _ = _
        simp only [Act.put,sA,s0,s1,i64_w,i32_w];rfl
       refine pure_ (i:=16) (N:=some 32) (v:=?_) (a':=?_) m17_7 rfl rfl (any_of HT_.out (by kernel_rfl)) (fun _ _ _ h => h) (Or.inl ⟨by rfl,?_⟩) ?_ ?_;rotate_left;intro w';go_simp;(with_reducible rfl);rotate_left;simp only [Act.put,sA,s0,s1,i64_w,i32_w];rfl
       refine pure_ (i:=17) (N:=some 33) (v:=?_) (a':=?_) m18_7 rfl rfl (any_of HT_.out (by kernel_rfl)) (fun _ _ _ h => h) (Or.inl ⟨by rfl,?_⟩) ?_ ?_;rotate_left;intro w';go_simp;(with_reducible rfl);rotate_left;simp only [Act.put,sA,s0,s1,i64_w,i32_w];rfl
       refine done_ (done_of HT_.out (by kernel_rfl)) ?_
       try go_wp2
       go_ret
       exact ⟨by first | rfl | (simp [errW_none,errW_some] <;> rfl) | (simp [*,errW_none,errW_some] <;> rfl),by repeat (first | (with_reducible first | exact HB.out | apply bA | apply bN | apply bD | refine below_set ?_ GE251.out) | exact HB.out)⟩
    ·rw [if_neg c6] at H;exact absurd H (by simp)
   ·rw [if_neg c5] at H;have c5b0 : decide (x8_1 < (l2.length : Int)) = false:=decide_eq_false c5;clear c5;replace H:=bS.mp H;obtain ⟨t252,A170,H⟩:=H;replace H : (if t252 = true then (some (decide ((l2.length : Int) ≤ 10))) else (some false)) = some r:=H;have A17:=am A170;clear A170
    by_cases c18 : t252 = true
    ·subst c18;have H1 : (some (decide ((l2.length : Int) ≤ 10))) = some r:=by rw [if_pos rfl] at H;exact H
     clear H;have H:=H1;clear H1;obtain rfl:=Option.some.inj H;have hcz19_0 : wr.cell? ⟨gb251,0,none⟩ = some (.int .i64 a0_0):=(blk_cell BK251.out 0).trans rfl;have hcz19_1 : wr.cell? ⟨gb251,1,none⟩ = some (.int .i64 a0_1):=(blk_cell BK251.out 1).trans rfl;have hcz19_2 : wr.cell? ⟨gb251,2,none⟩ = some (.slice A0_2 l0_2.length c0_2):=(blk_cell BK251.out 2).trans rfl;have hfz19_0:=blk_frozen BK251.out 0;have hfz19_1:=blk_frozen BK251.out 1;have hfz19_2:=blk_frozen BK251.out 2;go_wp2_with (first | ((with_reducible refine gate_callee (f:=105) rfl ?_);refine goesL_ (some 41) rfl rfl Try.func105 (by kernel_rfl) rfl #[.agg #[.int .i64 a0_0,.int .i64 a0_1,.slice A0_2 l0_2.length c0_2],.int .i64 a1] rfl (by (try simp only [List.map_toArray,List.map_cons,List.map_nil]);first | done | rfl | (simp only [List.length_drop,List.length_take];rfl)) ?_;(with_reducible refine (spec_IsOpen.calls k1 a0_0 a0_1 _ _ l0_2 a1 true _ ?side1 ?side2 A17.out).mono ?_);(case side1 => repeat (first | exact (Kd.C_below HR0_2.out HB.out) | (with_reducible refine cA ?_ _) | (with_reducible refine cN ?_ _) | (with_reducible refine cD ?_)));(case side2 => exact HC0_2.out);rintro e w20 ⟨rfl,hb⟩;refine ⟨_,rfl,?_⟩;have n0_:=am (blk_below (g:=gb251) (o:=.cells #[.int .i64 a0_0,.int .i64 a0_1,.slice A0_2 l0_2.length c0_2] 51 (0,0)) (by (with_reducible repeat (first | refine dN ?_ _ | refine dD ?_ | refine dA ?_ _));exact BK251.out) hb);have n1_:=am (below_step (by repeat (first | (with_reducible first | exact HB.out | apply bA | apply bN | apply bD | refine below_set ?_ GE251.out) | exact HB.out)) hb);clear BK251;clear HB;have BK251:=n0_;have HB:=n1_;clear n0_ n1_;(try clear hb);(try clear hb2);(try clear hk);(try clear hi)))
     go_ret
     exact ⟨by first | rfl | (simp [errW_none,errW_some] <;> rfl) | (simp [*,errW_none,errW_some] <;> rfl),by repeat (first | (with_reducible first | exact HB.out | apply bA | apply bN | apply bD | refine below_set ?_ GE251.out) | exact HB.out)⟩
    ·replace c18:=Bool.eq_false_iff.mpr c18;subst c18;have H1 : (some false) = some r:=by rw [if_neg (show ¬ (false = true) by decide)] at H;exact H
     clear H;have H:=H1;clear H1;obtain rfl:=Option.some.inj H;have hcz21_0 : wr.cell? ⟨gb251,0,none⟩ = some (.int .i64 a0_0):=(blk_cell BK251.out 0).trans rfl;have hcz21_1 : wr.cell? ⟨gb251,1,none⟩ = some (.int .i64 a0_1):=(blk_cell BK251.out 1).trans rfl;have hcz21_2 : wr.cell? ⟨gb251,2,none⟩ = some (.slice A0_2 l0_2.length c0_2):=(blk_cell BK251.out 2).trans rfl;have hfz21_0:=blk_frozen BK251.out 0;have hfz21_1:=blk_frozen BK251.out 1;have hfz21_2:=blk_frozen BK251.out 2;go_wp2_with (first | ((with_reducible refine gate_callee (f:=105) rfl ?_);refine goesL_ (some 41) rfl rfl Try.func105 (by kernel_rfl) rfl #[.agg #[.int .i64 a0_0,.int .i64 a0_1,.slice A0_2 l0_2.length c0_2],.int .i64 a1] rfl (by (try simp only [List.map_toArray,List.map_cons,List.map_nil]);first | done | rfl | (simp only [List.length_drop,List.length_take];rfl)) ?_;(with_reducible refine (spec_IsOpen.calls k1 a0_0 a0_1 _ _ l0_2 a1 false _ ?side1 ?side2 A17.out).mono ?_);(case side1 => repeat (first | exact (Kd.C_below HR0_2.out HB.out) | (with_reducible refine cA ?_ _) | (with_reducible refine cN ?_ _) | (with_reducible refine cD ?_)));(case side2 => exact HC0_2.out);rintro e w22 ⟨rfl,hb⟩;refine ⟨_,rfl,?_⟩;have n0_:=am (blk_below (g:=gb251) (o:=.cells #[.int .i64 a0_0,.int .i64 a0_1,.slice A0_2 l0_2.length c0_2] 51 (0,0)) (by (with_reducible repeat (first | refine dN ?_ _ | refine dD ?_ | refine dA ?_ _));exact BK251.out) hb);have n1_:=am (below_step (by repeat (first | (with_reducible first | exact HB.out | apply bA | apply bN | apply bD | refine below_set ?_ GE251.out) | exact HB.out)) hb);clear BK251;clear HB;have BK251:=n0_;have HB:=n1_;clear n0_ n1_;(try clear hb);(try clear hb2);(try clear hk);(try clear hi)))
     go_ret
     exact ⟨by first | rfl | (simp [errW_none,errW_some] <;> rfl) | (simp [*,errW_none,errW_some] <;> rfl),by repeat (first | (with_reducible first | exact HB.out | apply bA | apply bN | apply bD | refine below_set ?_ GE251.out) | exact HB.out)⟩

/-! ### laws_toIntS: function 106 -/
def laws_toIntS.l0 : Nat → List Int → List Int → Int → Option (List Int)
 | 0,_,_,_ => none
 | k + 1,x0,x3,x4 => if x4 < (x0.length : Int) then (if 0 ≤ x4 then (if x4 < (x3.length : Int) then (laws_toIntS.l0 k x0 (x3.set (x4 : Int).toNat (rd x0 x4)) (wrap64 (x4 + 1))) else (none)) else (none)) else (some x3)
def laws_toIntS.f (k : Nat) (l0 : List Int) : Option (List Int) := if 0 ≤ (l0.length : Int) then (if ((l0.length : Int) : Int).toNat ≤ 35184372088832 then (laws_toIntS.l0 k l0 (List.replicate ((l0.length : Int) : Int).toNat 0) 0) else (none)) else (none)
theorem laws_toIntS.mono_l : ∀ k, (∀ y0 y1 y2, LeO (laws_toIntS.l0 k y0 y1 y2) (laws_toIntS.l0 (k + 1) y0 y1 y2))
 | 0 => fun _ _ _ r h => by simp [laws_toIntS.l0] at h
 | k + 1 => by
  have ih0:=laws_toIntS.mono_l k
  ·intro y0 y1 y2
   unfold laws_toIntS.l0
   repeat' first
   | (with_reducible exact ih0 _ _ _)
   | (with_reducible exact LeO.refl _)
   | (with_reducible exact LeO.none _)
   | (with_reducible refine LeO.ite ?_ ?_)
   | (with_reducible refine LeO.bind ?_ (fun _ => ?_))
   | exact ih0 _ _ _
   | exact LeO.none _
   | refine LeO.ite ?_ ?_
   | refine LeO.bind ?_ (fun _ => ?_)
theorem laws_toIntS.mono : ∀ a0 k, LeO (laws_toIntS.f k a0) (laws_toIntS.f (k + 1) a0) := by
 intro a0 k
 have ih0:=laws_toIntS.mono_l k
 unfold laws_toIntS.f
 repeat' first
   | (with_reducible exact ih0 _ _ _)
   | (with_reducible exact LeO.refl _)
   | (with_reducible exact LeO.none _)
   | (with_reducible refine LeO.ite ?_ ?_)
   | (with_reducible refine LeO.bind ?_ (fun _ => ?_))
   | exact ih0 _ _ _
   | exact LeO.none _
   | refine LeO.ite ?_ ?_
   | refine LeO.bind ?_ (fun _ => ?_)
set_option maxHeartbeats 8000000 in
set_option maxRecDepth 100000 in
theorem laws_toIntS.calls (k : Nat) (A0 : Option Addr) (c0 : Nat) (l0 : List Int) (r : List Int) (w : World) (hr0 : Kd.C (Kd.int .i64) w A0 l0.length l0) (hc0 : l0.length ≤ c0) (h : laws_toIntS.f k l0 = some r) :
  Calls Try.prog 106 #[.slice A0 l0.length c0] w fun e w' => ∃ v0_ : Value,e = .returned (v0_) ∧ Kd.R (Kd.int .i64) 3 w' w.heap.size (fun _ => True) v0_ r ∧ Below w.heap.size w w':=by
 have HR0:=am hr0;have HC0:=am hc0;clear hr0 hc0;have HB:=am (Below.refl w.heap.size w);have H : (if 0 ≤ (l0.length : Int) then (if ((l0.length : Int) : Int).toNat ≤ 35184372088832 then (laws_toIntS.l0 k l0 (List.replicate ((l0.length : Int) : Int).toNat 0) 0) else (none)) else (none)) = some r:=h;clear h
 by_cases c2 : 0 ≤ (l0.length : Int)
 ·rw [if_pos c2] at H;have c2b0:=eq_true c2;have c2b1 : decide (0 ≤ (l0.length : Int)) = true:=decide_eq_true c2;clear c2
  by_cases c3 : ((l0.length : Int) : Int).toNat ≤ 35184372088832
  ·rw [if_pos c3] at H;have c3b0:=eq_true c3;have c3b1 : decide (((l0.length : Int) : Int).toNat ≤ 35184372088832) = true:=decide_eq_true c3;clear c3;obtain ⟨y258,hy258⟩ : ∃ y_ : List Int,y_ = (List.replicate ((l0.length : Int) : Int).toNat 0):=⟨_,rfl⟩
   replace H : (laws_toIntS.l0 k l0 y258 0) = some r:=by first | (rw [hy258];with_reducible exact H) | (have H2_:=(Option.bind_some _ _).symm.trans H;rw [hy258];with_reducible exact H2_) | (have H2_:=(Option.bind_some _ _).symm.trans H;with_reducible exact H2_) | with_reducible exact H | (rw [hy258];exact H) | exact H
   have Ny258:=am hy258;clear hy258;have H':=am H;clear H
   go_enter Try.func106,Try.ntmps106
   go_wp2_with (first | ((with_reducible refine gate_dst (N:=7) rfl ?_);refine Kd.R_make (Kd.int .i64) _ 3 rfl (N:=7) rfl 49 _ _ rfl (l0.length : Int) rfl rfl Try.underlying49 (.int .i64 0) 8 info3 rfl (by decide) (by omega) 0 (ok:=fun _ => True) (okp:=fun _ => True) rfl (fun _ hk => hk) trivial (odt (by first | (with_reducible assumption) | assumption)) (Nat.le_trans (Nat.mul_le_mul_right _ (odt (by first | (with_reducible assumption) | assumption) : (l0.length : Int).toNat ≤ 35184372088832)) (by omega)) (Below.refl _ _) (Nat.le_refl _) ?_;intro v259 w4 ho5 hb hg_ hnew_;clear hg_ hnew_;(first | rw [← Ny258.out] at ho5 | (simp only [Int.reduceToNat] at ho5;rw [← Ny258.out] at ho5));have n0_:=am (Kd.R_lower ho5 (below_size (by repeat (first | (with_reducible first | exact HB.out | apply bA | apply bN | apply bD) | exact HB.out))));have n1_:=am (below_step (by repeat (first | (with_reducible first | exact HB.out | apply bA | apply bN | apply bD) | exact HB.out)) hb);clear HB;have HO260:=n0_;have HB:=n1_;clear n0_ n1_;clear hb ho5))
   go_loopg [4] k (fun kq v4 w' => ∃ (x3_1 : List Int) (x4_1 : Int),v4 = .int .i64 x4_1 ∧ Aside0 (laws_toIntS.l0 kq l0 x3_1 x4_1 = some r) ∧ Aside0 (kq ≤ k) ∧ Aside0 (Kd.R (Kd.int .i64) 3 w' w.heap.size (fun _ => True) v259 x3_1) ∧ Aside0 (Below w.heap.size w w'))
   case atStart => exact ⟨(y258),(0),(by first | rfl | (simp;done) | (simp [*];done)),H',⟨Nat.le_refl _⟩,⟨by (with_reducible repeat (first | apply kA | apply kN | apply kD));exact HO260.out⟩,⟨by repeat (first | (with_reducible first | exact HB.out | apply bA | apply bN | apply bD) | exact HB.out)⟩⟩
   case round =>
    clear H'
    try clear c1
    try clear c2
    try clear c2b0
    try clear c2b1
    try clear p2
    try clear c3
    try clear c3b0
    try clear c3b1
    obtain ⟨x3_1,x4_1,rfl,HA,HK1,HO_3,HB⟩:=hrel
    cases gk with
    | zero => exact absurd HA.out (by simp [laws_toIntS.l0])
    | succ k1 =>
     have H:=HA.out;clear HA;simp only [laws_toIntS.l0] at H
     by_cases c6 : x4_1 < (l0.length : Int)
     ·rw [if_pos c6] at H;have c6b0 : decide (x4_1 < (l0.length : Int)) = true:=decide_eq_true c6;clear c6
      by_cases c7 : 0 ≤ x4_1
      ·rw [if_pos c7] at H;have c7b0 : decide (0 ≤ x4_1) = true:=decide_eq_true c7;clear c7
       by_cases c8 : x4_1 < (x3_1.length : Int)
       ·rw [if_pos c8] at H;have c8b0 : decide (x4_1 < (x3_1.length : Int)) = true:=decide_eq_true c8;clear c8;obtain ⟨y262,hy262⟩ : ∃ y_ : List Int,y_ = (x3_1.set (x4_1 : Int).toNat (rd l0 x4_1)):=⟨_,rfl⟩
        replace H : (laws_toIntS.l0 k1 l0 y262 (wrap64 (x4_1 + 1))) = some r:=by first | (rw [hy262];with_reducible exact H) | (have H2_:=(Option.bind_some _ _).symm.trans H;rw [hy262];with_reducible exact H2_) | (have H2_:=(Option.bind_some _ _).symm.trans H;with_reducible exact H2_) | with_reducible exact H | (rw [hy262];exact H) | exact H
        have Ny262:=am hy262;clear hy262;have H':=am H;clear H;have p261 : 0 ≤ (x4_1 : Int):=odt (by first | (with_reducible assumption) | assumption);have q261 : x4_1 < (l0.length : Int):=odt (by first | (with_reducible assumption) | assumption);obtain ⟨ad261,e261,hx261_0⟩:=Kd.at_int HR0.out x4_1 p261 q261
        cases e261
        replace hx261_0:=(ct HB.out hx261_0 :)
        replace p261:=eq_true p261;replace q261:=eq_true q261;have p9 : 0 ≤ (x4_1 : Int):=odt (by first | (with_reducible assumption) | assumption);have q9 : (x4_1 : Int) < ((x3_1.length : Int) : Int):=odt (by first | (with_reducible assumption) | assumption);obtain ⟨go9,co9,eo9,gb9,gl9,cl9,HG9⟩:=Kd.R_form HO_3.out (by omega);(first | cases eo9 | (injection eo9 with ea_ en_ ec_;(first | subst ea_ | (injection ea_ with ea_;subst ea_));subst ec_;clear en_));have GB9:=am gb9;have GG9:=am HG9;clear gb9 gl9 HG9;obtain ⟨hx9_0,hf9_0⟩:=Kd.R_celln 0 HO_3.out (x4_1 : Int) p9 q9;replace p9:=eq_true p9;replace q9:=eq_true q9;have HP10:=Kd.R_putg HO_3.out (x4_1 : Int) (rd l0 x4_1);go_wp2_with (first | ((with_reducible refine gate_store (t:=3) (p:=20) rfl ?_);refine store_event (t:=3) (p:=20) (v:=?vo_w11) (w1:=(wr.setCell ⟨go9,(x4_1 : Int).toNat,none⟩ (.int .i64 (rd l0 x4_1)))) ?hg ?ho ?hn ?hr ?_;(case ho => rfl);(case hg => rfl);(case hn => rfl);(case hr => first | (go_simp;done) | (go_simp;rfl));intro w11 hw;have hg : wr.grownBy w11 (some go9):=(by rw [hw];exact HP10.2);have hp_ : Kd.R (Kd.int .i64) 3 w11 w.heap.size (fun _ => True) (.slice (some ⟨go9,0,none⟩) x3_1.length co9) y262:=(by rw [hw,Ny262.out];exact HP10.1);clear HP10;have n0_:=am (hp_);have n1_:=am ((by rw [hw];exact below_set (HB.out) GB9.out : Below w.heap.size w w11));clear HO_3;clear HB;have HO_3:=n0_;have HB:=n1_;clear n0_ n1_;clear hg hw hp_))
        go_roundg k1
        case measure => have:=HK1.out;omega
        case rel => exact ⟨(y262),(wrap64 (x4_1 + 1)),(by first | rfl | (simp;done) | (simp [*];done)),H',⟨by have:=HK1.out;omega⟩,⟨by (with_reducible repeat (first | apply kA | apply kN | apply kD));exact HO_3.out⟩,⟨by repeat (first | (with_reducible first | exact HB.out | apply bA | apply bN | apply bD) | exact HB.out)⟩⟩
       ·rw [if_neg c8] at H;exact absurd H (by simp)
      ·rw [if_neg c7] at H;exact absurd H (by simp)
     ·rw [if_neg c6] at H;have c6b0 : decide (x4_1 < (l0.length : Int)) = false:=decide_eq_false c6;clear c6;obtain rfl:=Option.some.inj H;go_wp2
      go_ret
      exact ⟨_,by first | rfl | (simp [errW_none,errW_some] <;> rfl) | (simp [*,errW_none,errW_some] <;> rfl),by (with_reducible repeat (first | apply kA | apply kN | apply kD));exact HO_3.out,by repeat (first | (with_reducible first | exact HB.out | apply bA | apply bN | apply bD) | exact HB.out)⟩
  ·rw [if_neg c3] at H;exact absurd H (by simp)
 ·rw [if_neg c2] at H;exact absurd H (by simp)

/-! ### laws_toLand: function 56 -/
def laws_toLand.f (k : Nat) (a0_0 : Int) (a0_1 : Int) (l0_2 : List Int) : Option (Int × Int × List Int) := (laws_toIntS.f k l0_2).bind fun t266 => (some (a0_0, a0_1, t266))
theorem laws_toLand.mono : ∀ a0 a1 a2 k, LeO (laws_toLand.f k a0 a1 a2) (laws_toLand.f (k + 1) a0 a1 a2) := by
 intro a0 a1 a2 k
 unfold laws_toLand.f
 repeat' first
   | (with_reducible exact laws_toIntS.mono _ _)
   | (with_reducible exact LeO.refl _)
   | (with_reducible exact LeO.none _)
   | (with_reducible refine LeO.ite ?_ ?_)
   | (with_reducible refine LeO.bind ?_ (fun _ => ?_))
   | exact laws_toIntS.mono _ _
   | exact LeO.none _
   | refine LeO.ite ?_ ?_
   | refine LeO.bind ?_ (fun _ => ?_)
set_option maxHeartbeats 8000000 in
set_option maxRecDepth 100000 in
theorem laws_toLand.calls (k : Nat) (a0_0 : Int) (a0_1 : Int) (A0_2 : Option Addr) (c0_2 : Nat) (l0_2 : List Int) (r1 : Int) (r2 : Int) (r3 : List Int) (w : World) (hr0_2 : Kd.C (Kd.int .i64) w A0_2 l0_2.length l0_2) (hc0_2 : l0_2.length ≤ c0_2) (h : laws_toLand.f k a0_0 a0_1 l0_2 = some (r1, r2, r3)) :
  Calls Try.prog 56 #[.agg #[.int .i64 a0_0,.int .i64 a0_1,.slice A0_2 l0_2.length c0_2]] w fun e w' => ∃ v2_ : Value,e = .returned (.agg #[.int .i64 r1,.int .i64 r2,v2_]) ∧ Kd.R (Kd.int .i64) 3 w' w.heap.size (fun _ => True) v2_ r3 ∧ Below w.heap.size w w':=by
 have hu81:=Try.underlying81;have hu51:=Try.underlying51;have HR0_2:=am hr0_2;have HC0_2:=am hc0_2;clear hr0_2 hc0_2;have HB:=am (Below.refl w.heap.size w);have H : ((laws_toIntS.f k l0_2).bind fun t266 => (some (a0_0,a0_1,t266))) = some (r1,r2,r3):=h;clear h;replace H:=bS.mp H;obtain ⟨t266,A20,H⟩:=H;replace H : (some (a0_0,a0_1,t266)) = some (r1,r2,r3):=H;have A2:=am A20;clear A20;simp only [Option.some.injEq,Prod.mk.injEq] at H;obtain ⟨rfl,rfl,rfl⟩:=H
 go_enter Try.func56,Try.ntmps56
 go_wp2_with (first | ((with_reducible refine gate_dst (N:=1) rfl ?_);refine box_event ?hg (N:=1) ?hd (cs:=#[.int .i64 a0_0,.int .i64 a0_1,.slice A0_2 l0_2.length c0_2]) (t:=81) ?hr ?_;(case hd => rfl);(case hg => rfl);(case hr => first | (go_simp;done) | (go_simp;rfl));intro gb263 hg w3 hbox hb;have n0_:=am (below_step (by repeat (first | (with_reducible first | exact HB.out | apply bA | apply bN | apply bD) | exact HB.out)) hb);have n1_:=am (hbox);have n2_:=am ((by rw [hg];exact (below_size (by repeat (first | (with_reducible first | exact HB.out | apply bA | apply bN | apply bD) | exact HB.out))) : w.heap.size ≤ gb263));have n3_:=am ((by rw [hg];exact (below_size (by repeat (first | (with_reducible first | exact HB.out | apply bA | apply bN | apply bD) | exact HB.out))) : w.heap.size ≤ gb263));clear HB;have HB:=n0_;have BK263:=n1_;have GW263:=n2_;have GE263:=n3_;clear n0_ n1_ n2_ n3_;clear hb hbox hg) | ((with_reducible refine gate_dst (N:=2) rfl ?_);refine box_event ?hg (N:=2) ?hd (cs:=#[.int .i64 0,.int .i64 0,.slice none 0 0]) (t:=51) ?hr ?_;(case hd => rfl);(case hg => rfl);(case hr => first | (go_simp;done) | (go_simp;rfl));intro gb264 hg w4 hbox hb;have n0_:=am (blk_below (g:=gb263) (o:=.cells #[.int .i64 a0_0,.int .i64 a0_1,.slice A0_2 l0_2.length c0_2] 81 (0,0)) (by (with_reducible repeat (first | refine dN ?_ _ | refine dD ?_ | refine dA ?_ _));exact BK263.out) hb);have n1_:=am (below_step (by repeat (first | (with_reducible first | exact HB.out | apply bA | apply bN | apply bD | refine below_set ?_ GE263.out) | exact HB.out)) hb);have n2_:=am (hbox);have n3_:=am ((by rw [hg];exact (below_size (by repeat (first | (with_reducible first | exact HB.out | apply bA | apply bN | apply bD | refine below_set ?_ GE263.out) | exact HB.out))) : w.heap.size ≤ gb264));have n4_:=am ((by rw [hg];exact (below_size (by repeat (first | (with_reducible first | exact HB.out | apply bA | apply bN | apply bD | refine below_set ?_ GE263.out) | exact HB.out))) : w.heap.size ≤ gb264));have n5_:=am ((by rw [hg];exact Nat.ne_of_lt (blk_lt (g:=gb263) (o:=.cells #[.int .i64 a0_0,.int .i64 a0_1,.slice A0_2 l0_2.length c0_2] 81 (0,0)) (by (with_reducible repeat (first | refine dN ?_ _ | refine dD ?_ | refine dA ?_ _));exact BK263.out)) : gb263 ≠ gb264));have n6_:=am ((by rw [hg];exact Nat.ne_of_gt (blk_lt (g:=gb263) (o:=.cells #[.int .i64 a0_0,.int .i64 a0_1,.slice A0_2 l0_2.length c0_2] 81 (0,0)) (by (with_reducible repeat (first | refine dN ?_ _ | refine dD ?_ | refine dA ?_ _));exact BK263.out)) : gb264 ≠ gb263));clear BK263;clear HB;have BK263:=n0_;have HB:=n1_;have BK264:=n2_;have GW264:=n3_;have GE264:=n4_;have NB263_264:=n5_;have NB264_263:=n6_;clear n0_ n1_ n2_ n3_ n4_ n5_ n6_;clear hb hbox hg) | ((with_reducible refine gate_dst (N:=3) rfl ?_);refine box_event ?hg (N:=3) ?hd (cs:=#[.int .i64 0,.int .i64 0,.slice none 0 0]) (t:=51) ?hr ?_;(case hd => rfl);(case hg => rfl);(case hr => first | (go_simp;done) | (go_simp;rfl));intro gb265 hg w5 hbox hb;have n0_:=am (blk_below (g:=gb263) (o:=.cells #[.int .i64 a0_0,.int .i64 a0_1,.slice A0_2 l0_2.length c0_2] 81 (0,0)) (by (with_reducible repeat (first | refine dN ?_ _ | refine dD ?_ | refine dA ?_ _));exact BK263.out) hb);have n1_:=am (blk_below (g:=gb264) (o:=.cells #[.int .i64 0,.int .i64 0,.slice none 0 0] 51 (0,0)) (by (with_reducible repeat (first | refine dN ?_ _ | refine dD ?_ | refine dA ?_ _));exact BK264.out) hb);have n2_:=am (below_step (by repeat (first | (with_reducible first | exact HB.out | apply bA | apply bN | apply bD | refine below_set ?_ GE263.out | refine below_set ?_ GE264.out) | exact HB.out)) hb);have n3_:=am (hbox);have n4_:=am ((by rw [hg];exact (below_size (by repeat (first | (with_reducible first | exact HB.out | apply bA | apply bN | apply bD | refine below_set ?_ GE263.out | refine below_set ?_ GE264.out) | exact HB.out))) : w.heap.size ≤ gb265));have n5_:=am ((by rw [hg];exact (below_size (by repeat (first | (with_reducible first | exact HB.out | apply bA | apply bN | apply bD | refine below_set ?_ GE263.out | refine below_set ?_ GE264.out) | exact HB.out))) : w.heap.size ≤ gb265));have n6_:=am ((by rw [hg];exact Nat.ne_of_lt (blk_lt (g:=gb263) (o:=.cells #[.int .i64 a0_0,.int .i64 a0_1,.slice A0_2 l0_2.length c0_2] 81 (0,0)) (by (with_reducible repeat (first | refine dN ?_ _ | refine dD ?_ | refine dA ?_ _));exact BK263.out)) : gb263 ≠ gb265));have n7_:=am ((by rw [hg];exact Nat.ne_of_gt (blk_lt (g:=gb263) (o:=.cells #[.int .i64 a0_0,.int .i64 a0_1,.slice A0_2 l0_2.length c0_2] 81 (0,0)) (by (with_reducible repeat (first | refine dN ?_ _ | refine dD ?_ | refine dA ?_ _));exact BK263.out)) : gb265 ≠ gb263));have n8_:=am ((by rw [hg];exact Nat.ne_of_lt (blk_lt (g:=gb264) (o:=.cells #[.int .i64 0,.int .i64 0,.slice none 0 0] 51 (0,0)) (by (with_reducible repeat (first | refine dN ?_ _ | refine dD ?_ | refine dA ?_ _));exact BK264.out)) : gb264 ≠ gb265));have n9_:=am ((by rw [hg];exact Nat.ne_of_gt (blk_lt (g:=gb264) (o:=.cells #[.int .i64 0,.int .i64 0,.slice none 0 0] 51 (0,0)) (by (with_reducible repeat (first | refine dN ?_ _ | refine dD ?_ | refine dA ?_ _));exact BK264.out)) : gb265 ≠ gb264));clear BK263;clear BK264;clear HB;have BK263:=n0_;have BK264:=n1_;have HB:=n2_;have BK265:=n3_;have GW265:=n4_;have GE265:=n5_;have NB263_265:=n6_;have NB265_263:=n7_;have NB264_265:=n8_;have NB265_264:=n9_;clear n0_ n1_ n2_ n3_ n4_ n5_ n6_ n7_ n8_ n9_;clear hb hbox hg;have hnb6:=NB263_264.out;have hnc6:=NB264_263.out;have hnb7:=NB263_265.out;have hnc7:=NB265_263.out;have hcz8_0 : w5.cell? ⟨gb263,0,none⟩ = some (.int .i64 a0_0):=(blk_cell BK263.out 0).trans rfl;have hcz8_1 : w5.cell? ⟨gb263,1,none⟩ = some (.int .i64 a0_1):=(blk_cell BK263.out 1).trans rfl;have hcz8_2 : w5.cell? ⟨gb263,2,none⟩ = some (.slice A0_2 l0_2.length c0_2):=(blk_cell BK263.out 2).trans rfl;have hfz8_0:=blk_frozen BK263.out 0;have hfz8_1:=blk_frozen BK263.out 1;have hfz8_2:=blk_frozen BK263.out 2;have hnb9:=NB265_264.out;have hnc9:=NB264_265.out;have hcz10_0 : w5.cell? ⟨gb265,0,none⟩ = some (.int .i64 0):=(blk_cell BK265.out 0).trans rfl;have hcz10_1 : w5.cell? ⟨gb265,1,none⟩ = some (.int .i64 0):=(blk_cell BK265.out 1).trans rfl;have hcz10_2 : w5.cell? ⟨gb265,2,none⟩ = some (.slice none 0 0):=(blk_cell BK265.out 2).trans rfl;have hfz10_0:=blk_frozen BK265.out 0;have hfz10_1:=blk_frozen BK265.out 1;have hfz10_2:=blk_frozen BK265.out 2) | ((with_reducible refine gate_callee (f:=106) rfl ?_);refine goesL_ (some 12) rfl rfl Try.func106 (by kernel_rfl) rfl #[.slice A0_2 l0_2.length c0_2] rfl (by (try simp only [List.map_toArray,List.map_cons,List.map_nil]);first | done | rfl | (simp only [List.length_drop,List.length_take];rfl)) ?_;(with_reducible refine (laws_toIntS.calls k _ _ l0_2 t266 _ ?side1 ?side2 A2.out).mono ?_);(case side1 => exact Kd.C_below HR0_2.out (by repeat (first | (with_reducible first | exact HB.out | apply bA | apply bN | apply bD | refine below_set ?_ GE263.out | refine below_set ?_ GE264.out | refine below_set ?_ GE265.out) | exact HB.out)));(case side2 => exact HC0_2.out);rintro e w11 ⟨v267,rfl,ho0,hb⟩;refine ⟨_,rfl,?_⟩;have n0_:=am (Kd.R_lower ho0 (below_size (by repeat (first | (with_reducible first | exact HB.out | apply bA | apply bN | apply bD | refine below_set ?_ GE263.out | refine below_set ?_ GE264.out | refine below_set ?_ GE265.out) | exact HB.out))));have n1_:=am (blk_below (g:=gb263) (o:=.cells #[.int .i64 a0_0,.int .i64 a0_1,.slice A0_2 l0_2.length c0_2] 81 (0,0)) (by (with_reducible repeat (first | refine dN ?_ _ | refine dD ?_ | refine dA ?_ _));refine blk_far ?_ NB263_265.out _;(with_reducible repeat (first | refine dN ?_ _ | refine dD ?_ | refine dA ?_ _));refine blk_far ?_ NB263_265.out _;(with_reducible repeat (first | refine dN ?_ _ | refine dD ?_ | refine dA ?_ _));exact BK263.out) hb);have n2_:=am (blk_below (g:=gb264) (o:=.cells #[.int .i64 0,.int .i64 0,.slice none 0 0] 51 (0,0)) (by (with_reducible repeat (first | refine dN ?_ _ | refine dD ?_ | refine dA ?_ _));refine blk_far ?_ NB264_265.out _;(with_reducible repeat (first | refine dN ?_ _ | refine dD ?_ | refine dA ?_ _));refine blk_far ?_ NB264_265.out _;(with_reducible repeat (first | refine dN ?_ _ | refine dD ?_ | refine dA ?_ _));exact BK264.out) hb);have n3_:=am (blk_below (g:=gb265) (o:=.cells #[.int .i64 a0_0,.int .i64 a0_1,.slice none 0 0] 51 (0,0)) (by (with_reducible repeat (first | refine dN ?_ _ | refine dD ?_ | refine dA ?_ _));refine blk_put (cs:=#[.int .i64 a0_0,.int .i64 0,.slice none 0 0]) ?_ 1 _ rfl;(with_reducible repeat (first | refine dN ?_ _ | refine dD ?_ | refine dA ?_ _));refine blk_put (cs:=#[.int .i64 0,.int .i64 0,.slice none 0 0]) ?_ 0 _ rfl;(with_reducible repeat (first | refine dN ?_ _ | refine dD ?_ | refine dA ?_ _));exact BK265.out) hb);have n4_:=am (below_step (by repeat (first | (with_reducible first | exact HB.out | apply bA | apply bN | apply bD | refine below_set ?_ GE263.out | refine below_set ?_ GE264.out | refine below_set ?_ GE265.out) | exact HB.out)) hb);clear BK263;clear BK264;clear BK265;clear HB;have HO268:=n0_;have BK263:=n1_;have BK264:=n2_;have BK265:=n3_;have HB:=n4_;clear n0_ n1_ n2_ n3_ n4_;(try clear hb);(try clear hb2);(try clear hk);(try clear hi);(try clear ho0);obtain ⟨Ao12,co12,eo12⟩:=Kd.R_slice HO268.out;subst eo12;have hcz13_0 : w11.cell? ⟨gb265,0,none⟩ = some (.int .i64 a0_0):=(blk_cell BK265.out 0).trans rfl;have hcz13_1 : w11.cell? ⟨gb265,1,none⟩ = some (.int .i64 a0_1):=(blk_cell BK265.out 1).trans rfl;have hcz13_2 : w11.cell? ⟨gb265,2,none⟩ = some (.slice none 0 0):=(blk_cell BK265.out 2).trans rfl;have hfz13_0:=blk_frozen BK265.out 0;have hfz13_1:=blk_frozen BK265.out 1;have hfz13_2:=blk_frozen BK265.out 2;have hcz14_0 : w11.cell? ⟨gb264,0,none⟩ = some (.int .i64 0):=(blk_cell BK264.out 0).trans rfl;have hcz14_1 : w11.cell? ⟨gb264,1,none⟩ = some (.int .i64 0):=(blk_cell BK264.out 1).trans rfl;have hcz14_2 : w11.cell? ⟨gb264,2,none⟩ = some (.slice none 0 0):=(blk_cell BK264.out 2).trans rfl;have hfz14_0:=blk_frozen BK264.out 0;have hfz14_1:=blk_frozen BK264.out 1;have hfz14_2:=blk_frozen BK264.out 2))
 refine bodyPost_ret (results_cell_row rfl _ _ gb264 51 #[.int .i64 a0_0,.int .i64 a0_1,.slice Ao12 t266.length co12] (0,0) _ rfl (by (with_reducible repeat (first | refine dN ?_ _ | refine dD ?_ | refine dA ?_ _));refine blk_put (cs:=#[.int .i64 a0_0,.int .i64 a0_1,.slice none 0 0]) ?_ 2 _ rfl;(with_reducible repeat (first | refine dN ?_ _ | refine dD ?_ | refine dA ?_ _));refine blk_put (cs:=#[.int .i64 a0_0,.int .i64 0,.slice none 0 0]) ?_ 1 _ rfl;(with_reducible repeat (first | refine dN ?_ _ | refine dD ?_ | refine dA ?_ _));refine blk_put (cs:=#[.int .i64 0,.int .i64 0,.slice none 0 0]) ?_ 0 _ rfl;(with_reducible repeat (first | refine dN ?_ _ | refine dD ?_ | refine dA ?_ _));refine blk_far ?_ NB264_265.out _;(with_reducible repeat (first | refine dN ?_ _ | refine dD ?_ | refine dA ?_ _));exact BK264.out) Try.underlying51 rfl (by kernel_rfl)) rfl ?_;exact ⟨_,by first | rfl | (simp [errW_none,errW_some] <;> rfl) | (simp [*,errW_none,errW_some] <;> rfl),by (with_reducible repeat (first | apply kA | apply kN | apply kD));exact Kd.R_mono (Kd.R_far (p:=⟨gb264,2,none⟩) (Kd.R_far (p:=⟨gb264,1,none⟩) (Kd.R_far (p:=⟨gb264,0,none⟩) (Kd.R_far (p:=⟨gb265,2,none⟩) (Kd.R_types (Kd.R_types HO268.out BK265.out (by decide)) BK264.out (by decide)) (fun _ hk => hk.1.2) (.slice Ao12 t266.length co12)) (fun _ hk => hk.2) (.int .i64 a0_0)) (fun _ hk => hk.2) (.int .i64 a0_1)) (fun _ hk => hk.2) (.slice Ao12 t266.length co12)) (fun _ hk => trivial),by repeat (first | (with_reducible first | exact HB.out | apply bA | apply bN | apply bD | refine below_set ?_ GE263.out | refine below_set ?_ GE264.out | refine below_set ?_ GE265.out) | exact HB.out)⟩

end Go.Proofs.Ytcbkknpmeknppaa.PFnExactIsPlan
