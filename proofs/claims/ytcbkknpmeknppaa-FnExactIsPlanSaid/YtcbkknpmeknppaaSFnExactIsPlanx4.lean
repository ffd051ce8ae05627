/- Contracts of functions that the law FnExactIsPlan reaches, for its row: lines that the kit's printer wrote for this claim, set shorter by a program of this session (own.py), and what fell in Lean proved anew. Lean checks them. -/
import Derived.Test.YtcbkknpmeknppaaSFnExactIsPlanx0
import Derived.Test.YtcbkknpmeknppaaSFnExactIsPlanx1
import Derived.Test.YtcbkknpmeknppaaSFnExactIsPlanx3
namespace Go.Proofs.Ytcbkknpmeknppaa.PFnExactIsPlan
open Go.RowKit Go.Proofs.YtcbkknpmeknppaaW.PrintWords Go.Proofs.YtcbkknpmeknppaaW.PrintLast Go.Proofs.YtcbkknpmeknppaaW.PrintMore
attribute [local go_sem] max2_int min2_int max_two min_two max_three min_three max_four min_four   -- for this text's walks alone
set_option linter.unusedVariables false
set_option linter.unusedSimpArgs false

/-! ### impl_IsPlan: function 46 -/
mutual
def impl_IsPlan.j0 : Nat → Int → List (S76) → Bool → Int → Int → List Int → Option (Bool)
 | 0,_,_,_,_,_,_ => none
 | k + 1,x1,x2,x17,x177000,x177001,x177002 => if x17 = true then (some false) else (impl_IsPlan.l0 k x1 x2 (x2.length : Int) 0 x177000 x177001 x177002)
def impl_IsPlan.l0 : Nat → Int → List (S76) → Int → Int → Int → Int → List Int → Option (Bool)
 | 0,_,_,_,_,_,_,_ => none
 | k + 1,x1,x18,x19,x20,x177000,x177001,x177002 => if x20 < x19 then (if 0 ≤ x20 then (if x20 < (x18.length : Int) then ((impl_Days.f k x177000 x177001 x177002 x1 ((rd_T76 x18 x20).f0)).bind fun t180 => (if t180 < 0 then (some false) else ((impl_InRange.f ((rd_T76 x18 x20).f1) 0 30).bind fun t181 => (if t181 = true then (impl_IsPlan.l0 k ((rd_T76 x18 x20).f0) x18 x19 (wrap64 (x20 + 1)) x177000 x177001 x177002) else (some false))))) else (none)) else (none)) else (some true)
end
def impl_IsPlan.f (k : Nat) (a0_0 : Int) (a0_1 : Int) (l0_2 : List Int) (a1 : Int) (l2 : List (S76)) : Option (Bool) := (impl_IsOpen.f k a0_0 a0_1 l0_2 a1).bind fun t177 => (if t177 = true then (impl_IsPlan.j0 k a1 l2 (decide ((l2.length : Int) > 10)) a0_0 a0_1 l0_2) else (impl_IsPlan.j0 k a1 l2 true a0_0 a0_1 l0_2))
theorem impl_IsPlan.mono_l : ∀ k, (∀ y0 y1 y2 y3 y4 y5, LeO (impl_IsPlan.j0 k y0 y1 y2 y3 y4 y5) (impl_IsPlan.j0 (k + 1) y0 y1 y2 y3 y4 y5)) ∧ (∀ y0 y1 y2 y3 y4 y5 y6, LeO (impl_IsPlan.l0 k y0 y1 y2 y3 y4 y5 y6) (impl_IsPlan.l0 (k + 1) y0 y1 y2 y3 y4 y5 y6))
 | 0 => ⟨fun _ _ _ _ _ _ r h => by simp [impl_IsPlan.j0] at h,fun _ _ _ _ _ _ _ r h => by simp [impl_IsPlan.l0] at h⟩
 | k + 1 => by
  obtain ⟨ih0,ih1⟩:=impl_IsPlan.mono_l k
  refine ⟨?_,?_⟩
  ·intro y0 y1 y2 y3 y4 y5
   unfold impl_IsPlan.j0
   repeat' first
   | (with_reducible exact ih0 _ _ _ _ _ _)
   | (with_reducible exact ih1 _ _ _ _ _ _ _)
   | (with_reducible exact impl_Days.mono _ _ _ _ _ _)
   | (with_reducible exact impl_IsOpen.mono _ _ _ _ _)
   | (with_reducible exact LeO.refl _)
   | (with_reducible exact LeO.none _)
   | (with_reducible refine LeO.ite ?_ ?_)
   | (with_reducible refine LeO.bind ?_ (fun _ => ?_))
   | exact ih0 _ _ _ _ _ _
   | exact ih1 _ _ _ _ _ _ _
   | exact impl_Days.mono _ _ _ _ _ _
   | exact impl_IsOpen.mono _ _ _ _ _
   | exact LeO.none _
   | refine LeO.ite ?_ ?_
   | refine LeO.bind ?_ (fun _ => ?_)
  ·intro y0 y1 y2 y3 y4 y5 y6
   unfold impl_IsPlan.l0
   repeat' first
   | (with_reducible exact ih0 _ _ _ _ _ _)
   | (with_reducible exact ih1 _ _ _ _ _ _ _)
   | (with_reducible exact impl_Days.mono _ _ _ _ _ _)
   | (with_reducible exact impl_IsOpen.mono _ _ _ _ _)
   | (with_reducible exact LeO.refl _)
   | (with_reducible exact LeO.none _)
   | (with_reducible refine LeO.ite ?_ ?_)
   | (with_reducible refine LeO.bind ?_ (fun _ => ?_))
   | exact ih0 _ _ _ _ _ _
   | exact ih1 _ _ _ _ _ _ _
   | exact impl_Days.mono _ _ _ _ _ _
   | exact impl_IsOpen.mono _ _ _ _ _
   | exact LeO.none _
   | refine LeO.ite ?_ ?_
   | refine LeO.bind ?_ (fun _ => ?_)
theorem impl_IsPlan.mono : ∀ a0 a1 a2 a3 a4 k, LeO (impl_IsPlan.f k a0 a1 a2 a3 a4) (impl_IsPlan.f (k + 1) a0 a1 a2 a3 a4) := by
 intro a0 a1 a2 a3 a4 k
 obtain ⟨ih0,ih1⟩:=impl_IsPlan.mono_l k
 unfold impl_IsPlan.f
 repeat' first
   | (with_reducible exact ih0 _ _ _ _ _ _)
   | (with_reducible exact ih1 _ _ _ _ _ _ _)
   | (with_reducible exact impl_Days.mono _ _ _ _ _ _)
   | (with_reducible exact impl_IsOpen.mono _ _ _ _ _)
   | (with_reducible exact LeO.refl _)
   | (with_reducible exact LeO.none _)
   | (with_reducible refine LeO.ite ?_ ?_)
   | (with_reducible refine LeO.bind ?_ (fun _ => ?_))
   | exact ih0 _ _ _ _ _ _
   | exact ih1 _ _ _ _ _ _ _
   | exact impl_Days.mono _ _ _ _ _ _
   | exact impl_IsOpen.mono _ _ _ _ _
   | exact LeO.none _
   | refine LeO.ite ?_ ?_
   | refine LeO.bind ?_ (fun _ => ?_)
set_option maxHeartbeats 8000000 in
set_option maxRecDepth 100000 in
theorem impl_IsPlan.calls (k : Nat) (a0_0 : Int) (a0_1 : Int) (A0_2 : Option Addr) (c0_2 : Nat) (l0_2 : List Int) (a1 : Int) (A2 : Option Addr) (c2 : Nat) (l2 : List (S76)) (r : Bool) (w : World) (hr0_2 : Kd.C (Kd.int .i64) w A0_2 l0_2.length l0_2) (hc0_2 : l0_2.length ≤ c0_2) (hr2 : Kd.C k76 w A2 l2.length l2) (hc2 : l2.length ≤ c2) (h : impl_IsPlan.f k a0_0 a0_1 l0_2 a1 l2 = some r) :
  Calls Try.prog 46 #[.agg #[.int .i64 a0_0,.int .i64 a0_1,.slice A0_2 l0_2.length c0_2],.int .i64 a1,.slice A2 l2.length c2] w fun e w' => e = .returned (.bool r) ∧ Below w.heap.size w w':=by
 have hu51:=Try.underlying51;have hu76:=Try.underlying76;have HR0_2:=am hr0_2;have HC0_2:=am hc0_2;clear hr0_2 hc0_2;have HR2:=am hr2;have HC2:=am hc2;clear hr2 hc2;have HB:=am (Below.refl w.heap.size w);have H : ((impl_IsOpen.f k a0_0 a0_1 l0_2 a1).bind fun t177 => (if t177 = true then (impl_IsPlan.j0 k a1 l2 (decide ((l2.length : Int) > 10)) a0_0 a0_1 l0_2) else (impl_IsPlan.j0 k a1 l2 true a0_0 a0_1 l0_2))) = some r:=h;clear h;have HC4:=am H;clear H
 go_enter Try.func46,Try.ntmps46
 go_upto_region 1 with (first | ((with_reducible refine gate_dst (N:=3) rfl ?_);(try (refine gate_guard (by rfl) ?_;dsimp only));refine box_event ?hg (N:=3) ?hd (cs:=#[.int .i64 a0_0,.int .i64 a0_1,.slice A0_2 l0_2.length c0_2]) (t:=51) ?hr ?_;(case hd => rfl);(case hg => rfl);(case hr => first | (go_simp;done) | (go_simp;rfl));intro gb176 hg w5 hbox hb;have n0_:=am (below_step (by repeat (first | (with_reducible first | exact HB.out | apply bA | apply bN | apply bD) | exact HB.out)) hb);have n1_:=am (hbox);have n2_:=am ((by rw [hg];exact (below_size (by repeat (first | (with_reducible first | exact HB.out | apply bA | apply bN | apply bD) | exact HB.out))) : w.heap.size ≤ gb176));have n3_:=am ((by rw [hg];exact (below_size (by repeat (first | (with_reducible first | exact HB.out | apply bA | apply bN | apply bD) | exact HB.out))) : w.heap.size ≤ gb176));clear HB;have HB:=n0_;have BK176:=n1_;have GW176:=n2_;have GE176:=n3_;clear n0_ n1_ n2_ n3_;clear hb hbox hg))
 (try simp only [Act.put,sA,s0,s1])
 go_cut [17] (fun v17 wc => ∃ (kq : Nat) (x17_3 : Bool),v17 = .bool x17_3 ∧ Aside0 (impl_IsPlan.j0 kq a1 l2 x17_3 a0_0 a0_1 l0_2 = some r) ∧ Aside0 (kq ≤ k) ∧ Aside0 (wc.heap[gb176]? = some (.cells #[.int .i64 a0_0,.int .i64 a0_1,(.slice A0_2 l0_2.length c0_2)] 51 (0,0))) ∧ Aside0 (Below w.heap.size w wc))
 case first =>
  have H:=HC4.out;clear HC4;replace H:=bS.mp H;obtain ⟨t177,A60,H⟩:=H;replace H : (if t177 = true then (impl_IsPlan.j0 k a1 l2 (decide ((l2.length : Int) > 10)) a0_0 a0_1 l0_2) else (impl_IsPlan.j0 k a1 l2 true a0_0 a0_1 l0_2)) = some r:=H;have A6:=am A60;clear A60
  by_cases c7 : t177 = true
  ·subst c7;have H1 : (impl_IsPlan.j0 k a1 l2 (decide ((l2.length : Int) > 10)) a0_0 a0_1 l0_2) = some r:=by rw [if_pos rfl] at H;exact H
   clear H;have H:=H1;clear H1;have H':=am H;clear H;have hcz8_0 : w5.cell? ⟨gb176,0,none⟩ = some (.int .i64 a0_0):=(blk_cell BK176.out 0).trans rfl;have hcz8_1 : w5.cell? ⟨gb176,1,none⟩ = some (.int .i64 a0_1):=(blk_cell BK176.out 1).trans rfl;have hcz8_2 : w5.cell? ⟨gb176,2,none⟩ = some (.slice A0_2 l0_2.length c0_2):=(blk_cell BK176.out 2).trans rfl;have hfz8_0:=blk_frozen BK176.out 0;have hfz8_1:=blk_frozen BK176.out 1;have hfz8_2:=blk_frozen BK176.out 2;go_wp2_with (first | ((with_reducible refine gate_callee (f:=49) rfl ?_);refine goesL_ (some 11) rfl rfl Try.func49 (by kernel_rfl) rfl #[.agg #[.int .i64 a0_0,.int .i64 a0_1,.slice A0_2 l0_2.length c0_2],.int .i64 a1] rfl (by (try simp only [List.map_toArray,List.map_cons,List.map_nil]);first | done | rfl | (simp only [List.length_drop,List.length_take];rfl)) ?_;(with_reducible refine (impl_IsOpen.calls k a0_0 a0_1 _ _ l0_2 a1 true _ ?side1 ?side2 A6.out).mono ?_);(case side1 => repeat (first | exact (Kd.C_below HR0_2.out HB.out) | (with_reducible refine cA ?_ _) | (with_reducible refine cN ?_ _) | (with_reducible refine cD ?_)));(case side2 => exact HC0_2.out);rintro e w9 ⟨rfl,hb⟩;refine ⟨_,rfl,?_⟩;have n0_:=am (blk_below (g:=gb176) (o:=.cells #[.int .i64 a0_0,.int .i64 a0_1,.slice A0_2 l0_2.length c0_2] 51 (0,0)) (by (with_reducible repeat (first | refine dN ?_ _ | refine dD ?_ | refine dA ?_ _));exact BK176.out) hb);have n1_:=am (below_step (by repeat (first | (with_reducible first | exact HB.out | apply bA | apply bN | apply bD | refine below_set ?_ GE176.out) | exact HB.out)) hb);clear BK176;clear HB;have BK176:=n0_;have HB:=n1_;clear n0_ n1_;(try clear hb);(try clear hb2);(try clear hk);(try clear hi)))
   go_meet
   case rel => exact ⟨_,(decide ((l2.length : Int) > 10)),(by first | rfl | (simp;done) | (simp [*];done)),H',⟨by first | omega | exact Nat.le_refl _⟩,⟨by (with_reducible repeat (first | refine dN ?_ _ | refine dD ?_ | refine dA ?_ _));exact BK176.out⟩,⟨by repeat (first | (with_reducible first | exact HB.out | apply bA | apply bN | apply bD | refine below_set ?_ GE176.out) | exact HB.out)⟩⟩
  ·replace c7:=Bool.eq_false_iff.mpr c7;subst c7;have H1 : (impl_IsPlan.j0 k a1 l2 true a0_0 a0_1 l0_2) = some r:=by rw [if_neg (show ¬ (false = true) by decide)] at H;exact H
   clear H;have H:=H1;clear H1;have H':=am H;clear H;have hcz10_0 : w5.cell? ⟨gb176,0,none⟩ = some (.int .i64 a0_0):=(blk_cell BK176.out 0).trans rfl;have hcz10_1 : w5.cell? ⟨gb176,1,none⟩ = some (.int .i64 a0_1):=(blk_cell BK176.out 1).trans rfl;have hcz10_2 : w5.cell? ⟨gb176,2,none⟩ = some (.slice A0_2 l0_2.length c0_2):=(blk_cell BK176.out 2).trans rfl;have hfz10_0:=blk_frozen BK176.out 0;have hfz10_1:=blk_frozen BK176.out 1;have hfz10_2:=blk_frozen BK176.out 2;go_wp2_with (first | ((with_reducible refine gate_callee (f:=49) rfl ?_);refine goesL_ (some 11) rfl rfl Try.func49 (by kernel_rfl) rfl #[.agg #[.int .i64 a0_0,.int .i64 a0_1,.slice A0_2 l0_2.length c0_2],.int .i64 a1] rfl (by (try simp only [List.map_toArray,List.map_cons,List.map_nil]);first | done | rfl | (simp only [List.length_drop,List.length_take];rfl)) ?_;(with_reducible refine (impl_IsOpen.calls k a0_0 a0_1 _ _ l0_2 a1 false _ ?side1 ?side2 A6.out).mono ?_);(case side1 => repeat (first | exact (Kd.C_below HR0_2.out HB.out) | (with_reducible refine cA ?_ _) | (with_reducible refine cN ?_ _) | (with_reducible refine cD ?_)));(case side2 => exact HC0_2.out);rintro e w11 ⟨rfl,hb⟩;refine ⟨_,rfl,?_⟩;have n0_:=am (blk_below (g:=gb176) (o:=.cells #[.int .i64 a0_0,.int .i64 a0_1,.slice A0_2 l0_2.length c0_2] 51 (0,0)) (by (with_reducible repeat (first | refine dN ?_ _ | refine dD ?_ | refine dA ?_ _));exact BK176.out) hb);have n1_:=am (below_step (by repeat (first | (with_reducible first | exact HB.out | apply bA | apply bN | apply bD | refine below_set ?_ GE176.out) | exact HB.out)) hb);clear BK176;clear HB;have BK176:=n0_;have HB:=n1_;clear n0_ n1_;(try clear hb);(try clear hb2);(try clear hk);(try clear hi)))
   go_meet
   case rel => exact ⟨_,(true),(by first | rfl | (simp;done) | (simp [*];done)),H',⟨by first | omega | exact Nat.le_refl _⟩,⟨by (with_reducible repeat (first | refine dN ?_ _ | refine dD ?_ | refine dA ?_ _));exact BK176.out⟩,⟨by repeat (first | (with_reducible first | exact HB.out | apply bA | apply bN | apply bD | refine below_set ?_ GE176.out) | exact HB.out)⟩⟩
 case rest =>
  clear HC4
  try clear c2
  try clear p2
  try clear c4
  try clear c7
  try clear hcz10_0
  try clear hcz10_1
  try clear hcz10_2
  try clear hcz8_0
  try clear hcz8_1
  try clear hcz8_2
  try clear hfz10_0
  try clear hfz10_1
  try clear hfz10_2
  try clear hfz8_0
  try clear hfz8_1
  try clear hfz8_2
  obtain ⟨kq,x17_3,rfl,HA,HJ3,BK176,HB⟩:=hcut
  cases kq with
  | zero => exact absurd HA.out (by simp [impl_IsPlan.j0])
  | succ kj3 =>
   have H:=HA.out;clear HA;simp only [impl_IsPlan.j0] at H
   by_cases c12 : x17_3 = true
   ·subst c12;have H1 : (some false) = some r:=by rw [if_pos rfl] at H;exact H
    clear H;have H:=H1;clear H1;obtain rfl:=Option.some.inj H;go_wp2
    go_ret
    exact ⟨by first | rfl | (simp [errW_none,errW_some] <;> rfl) | (simp [*,errW_none,errW_some] <;> rfl),by repeat (first | (with_reducible first | exact HB.out | apply bA | apply bN | apply bD | refine below_set ?_ GE176.out) | exact HB.out)⟩
   ·replace c12:=Bool.eq_false_iff.mpr c12;subst c12;have H1 : (impl_IsPlan.l0 kj3 a1 l2 (l2.length : Int) 0 a0_0 a0_1 l0_2) = some r:=by rw [if_neg (show ¬ (false = true) by decide)] at H;exact H
    clear H;have H:=H1;clear H1;have H':=am H;clear H;go_wp2
    go_loopg [1,20] kj3 (fun kq v1 v20 w' => ∃ (x1_2 : Int) (x20_2 : Int),v1 = .int .i64 x1_2 ∧ v20 = .int .i64 x20_2 ∧ Aside0 (impl_IsPlan.l0 kq x1_2 l2 (l2.length : Int) x20_2 a0_0 a0_1 l0_2 = some r) ∧ Aside0 (kq ≤ kj3) ∧ Aside0 (w'.heap[gb176]? = some (.cells #[.int .i64 a0_0,.int .i64 a0_1,(.slice A0_2 l0_2.length c0_2)] 51 (0,0))) ∧ Aside0 (Below w.heap.size w w'))
    case atStart => exact ⟨(a1),(0),(by first | rfl | (simp;done) | (simp [*];done)),(by first | rfl | (simp;done) | (simp [*];done)),H',⟨Nat.le_refl _⟩,⟨by (with_reducible repeat (first | refine dN ?_ _ | refine dD ?_ | refine dA ?_ _));exact BK176.out⟩,⟨by repeat (first | (with_reducible first | exact HB.out | apply bA | apply bN | apply bD | refine below_set ?_ GE176.out) | exact HB.out)⟩⟩
    case round =>
     clear H'
     try clear c1
     try clear c2
     try clear p2
     try clear c4
     try clear c7
     try clear c12
     try clear hcz10_0
     try clear hcz10_1
     try clear hcz10_2
     try clear hcz8_0
     try clear hcz8_1
     try clear hcz8_2
     try clear hfz10_0
     try clear hfz10_1
     try clear hfz10_2
     try clear hfz8_0
     try clear hfz8_1
     try clear hfz8_2
     try clear p2
     obtain ⟨x1_2,x20_2,rfl,rfl,HA,HK2,BK176,HB⟩:=hrel
     cases gk with
     | zero => exact absurd HA.out (by simp [impl_IsPlan.l0])
     | succ k2 =>
      have H:=HA.out;clear HA;simp only [impl_IsPlan.l0] at H
      by_cases c13 : x20_2 < (l2.length : Int)
      ·rw [if_pos c13] at H;have c13b0 : decide (x20_2 < (l2.length : Int)) = true:=decide_eq_true c13;clear c13
       by_cases c14 : 0 ≤ x20_2
       ·rw [if_pos c14] at H;have c14b0 : decide (0 ≤ x20_2) = true:=decide_eq_true c14;clear c14
        by_cases c15 : x20_2 < (l2.length : Int)
        ·rw [if_pos c15] at H;have c15b0 : decide (x20_2 < (l2.length : Int)) = true:=decide_eq_true c15;clear c15;replace H:=bS.mp H;obtain ⟨t180,A160,H⟩:=H;replace H : (if t180 < 0 then (some false) else ((impl_InRange.f ((rd_T76 l2 x20_2).f1) 0 30).bind fun t181 => (if t181 = true then (impl_IsPlan.l0 k2 ((rd_T76 l2 x20_2).f0) l2 (l2.length : Int) (wrap64 (x20_2 + 1)) a0_0 a0_1 l0_2) else (some false)))) = some r:=H;have A16:=am A160;clear A160
         by_cases c17 : t180 < 0
         ·rw [if_pos c17] at H;have c17b0 : decide (t180 < 0) = true:=decide_eq_true c17;clear c17;obtain rfl:=Option.some.inj H;have p178 : 0 ≤ (x20_2 : Int):=odt (by first | (with_reducible assumption) | assumption);have q178 : x20_2 < (l2.length : Int):=odt (by first | (with_reducible assumption) | assumption);obtain ⟨ad178,e178,hx178_0,hx178_1⟩:=at_T76 HR2.out x20_2 p178 q178
          cases e178
          replace hx178_0:=(ct HB.out hx178_0 :)
          replace hx178_1:=(ct HB.out hx178_1 :)
          replace p178:=eq_true p178;replace q178:=eq_true q178;go_wp2_with (first | ((with_reducible refine gate_dst (N:=8) rfl ?_);(try (refine gate_guard (by rfl) ?_;dsimp only));refine box_event ?hg (N:=8) ?hd (cs:=#[.int .i64 0,.int .i64 0]) (t:=76) ?hr ?_;(case hd => rfl);(case hg => rfl);(case hr => first | (go_simp;done) | (go_simp;rfl));intro gb179 hg w18 hbox hb;have n0_:=am (blk_below (g:=gb176) (o:=.cells #[.int .i64 a0_0,.int .i64 a0_1,.slice A0_2 l0_2.length c0_2] 51 (0,0)) (by (with_reducible repeat (first | refine dN ?_ _ | refine dD ?_ | refine dA ?_ _));exact BK176.out) hb);have n1_:=am (below_step (by repeat (first | (with_reducible first | exact HB.out | apply bA | apply bN | apply bD | refine below_set ?_ GE176.out) | exact HB.out)) hb);have n2_:=am (hbox);have n3_:=am ((by rw [hg];exact (below_size (by repeat (first | (with_reducible first | exact HB.out | apply bA | apply bN | apply bD | refine below_set ?_ GE176.out) | exact HB.out))) : w.heap.size ≤ gb179));have n4_:=am ((by rw [hg];exact (below_size (by repeat (first | (with_reducible first | exact HB.out | apply bA | apply bN | apply bD | refine below_set ?_ GE176.out) | exact HB.out))) : w.heap.size ≤ gb179));have n5_:=am ((by rw [hg];exact Nat.ne_of_lt (blk_lt (g:=gb176) (o:=.cells #[.int .i64 a0_0,.int .i64 a0_1,.slice A0_2 l0_2.length c0_2] 51 (0,0)) (by (with_reducible repeat (first | refine dN ?_ _ | refine dD ?_ | refine dA ?_ _));exact BK176.out)) : gb176 ≠ gb179));have n6_:=am ((by rw [hg];exact Nat.ne_of_gt (blk_lt (g:=gb176) (o:=.cells #[.int .i64 a0_0,.int .i64 a0_1,.slice A0_2 l0_2.length c0_2] 51 (0,0)) (by (with_reducible repeat (first | refine dN ?_ _ | refine dD ?_ | refine dA ?_ _));exact BK176.out)) : gb179 ≠ gb176));clear BK176;clear HB;have BK176:=n0_;have HB:=n1_;have BK179:=n2_;have GW179:=n3_;have GE179:=n4_;have NB176_179:=n5_;have NB179_176:=n6_;clear n0_ n1_ n2_ n3_ n4_ n5_ n6_;clear hb hbox hg;have hnb19:=NB179_176.out;have hnc19:=NB176_179.out;have hcz20_0 : w18.cell? ⟨gb179,0,none⟩ = some (.int .i64 0):=(blk_cell BK179.out 0).trans rfl;have hcz20_1 : w18.cell? ⟨gb179,1,none⟩ = some (.int .i64 0):=(blk_cell BK179.out 1).trans rfl;have hfz20_0:=blk_frozen BK179.out 0;have hfz20_1:=blk_frozen BK179.out 1;have hcz21_0 : w18.cell? ⟨gb176,0,none⟩ = some (.int .i64 a0_0):=(blk_cell BK176.out 0).trans rfl;have hcz21_1 : w18.cell? ⟨gb176,1,none⟩ = some (.int .i64 a0_1):=(blk_cell BK176.out 1).trans rfl;have hcz21_2 : w18.cell? ⟨gb176,2,none⟩ = some (.slice A0_2 l0_2.length c0_2):=(blk_cell BK176.out 2).trans rfl;have hfz21_0:=blk_frozen BK176.out 0;have hfz21_1:=blk_frozen BK176.out 1;have hfz21_2:=blk_frozen BK176.out 2) | ((with_reducible refine gate_callee (f:=35) rfl ?_);refine goesL_ (some 28) rfl rfl Try.func35 (by kernel_rfl) rfl #[.agg #[.int .i64 a0_0,.int .i64 a0_1,.slice A0_2 l0_2.length c0_2],.int .i64 x1_2,.int .i64 ((rd_T76 l2 x20_2).f0)] rfl (by (try simp only [List.map_toArray,List.map_cons,List.map_nil]);first | done | rfl | (simp only [List.length_drop,List.length_take];rfl)) ?_;(with_reducible refine (impl_Days.calls k2 a0_0 a0_1 _ _ l0_2 x1_2 ((rd_T76 l2 x20_2).f0) t180 _ ?side1 ?side2 A16.out).mono ?_);(case side1 => exact Kd.C_below HR0_2.out (by repeat (first | (with_reducible first | exact HB.out | apply bA | apply bN | apply bD | refine below_set ?_ GE176.out | refine below_set ?_ GE179.out) | exact HB.out)));(case side2 => exact HC0_2.out);rintro e w22 ⟨rfl,hb⟩;refine ⟨_,rfl,?_⟩;have n0_:=am (blk_below (g:=gb176) (o:=.cells #[.int .i64 a0_0,.int .i64 a0_1,.slice A0_2 l0_2.length c0_2] 51 (0,0)) (by (with_reducible repeat (first | refine dN ?_ _ | refine dD ?_ | refine dA ?_ _));refine blk_far ?_ NB176_179.out _;(with_reducible repeat (first | refine dN ?_ _ | refine dD ?_ | refine dA ?_ _));refine blk_far ?_ NB176_179.out _;(with_reducible repeat (first | refine dN ?_ _ | refine dD ?_ | refine dA ?_ _));exact BK176.out) hb);have n1_:=am (blk_below (g:=gb179) (o:=.cells #[.int .i64 ((rd_T76 l2 x20_2).f0),.int .i64 ((rd_T76 l2 x20_2).f1)] 76 (0,0)) (by (with_reducible repeat (first | refine dN ?_ _ | refine dD ?_ | refine dA ?_ _));refine blk_put (cs:=#[.int .i64 ((rd_T76 l2 x20_2).f0),.int .i64 0]) ?_ 1 _ rfl;(with_reducible repeat (first | refine dN ?_ _ | refine dD ?_ | refine dA ?_ _));refine blk_put (cs:=#[.int .i64 0,.int .i64 0]) ?_ 0 _ rfl;(with_reducible repeat (first | refine dN ?_ _ | refine dD ?_ | refine dA ?_ _));exact BK179.out) hb);have n2_:=am (below_step (by repeat (first | (with_reducible first | exact HB.out | apply bA | apply bN | apply bD | refine below_set ?_ GE176.out | refine below_set ?_ GE179.out) | exact HB.out)) hb);clear BK176;clear BK179;clear HB;have BK176:=n0_;have BK179:=n1_;have HB:=n2_;clear n0_ n1_ n2_;(try clear hb);(try clear hb2);(try clear hk);(try clear hi)))
          go_ret
          exact ⟨by first | rfl | (simp [errW_none,errW_some] <;> rfl) | (simp [*,errW_none,errW_some] <;> rfl),by repeat (first | (with_reducible first | exact HB.out | apply bA | apply bN | apply bD | refine below_set ?_ GE176.out | refine below_set ?_ GE179.out) | exact HB.out)⟩
         ·rw [if_neg c17] at H;have c17b0 : decide (t180 < 0) = false:=decide_eq_false c17;clear c17;replace H:=bS.mp H;obtain ⟨t181,A230,H⟩:=H;replace H : (if t181 = true then (impl_IsPlan.l0 k2 ((rd_T76 l2 x20_2).f0) l2 (l2.length : Int) (wrap64 (x20_2 + 1)) a0_0 a0_1 l0_2) else (some false)) = some r:=H;have A23:=am A230;clear A230
          by_cases c24 : t181 = true
          ·subst c24;have H1 : (impl_IsPlan.l0 k2 ((rd_T76 l2 x20_2).f0) l2 (l2.length : Int) (wrap64 (x20_2 + 1)) a0_0 a0_1 l0_2) = some r:=by rw [if_pos rfl] at H;exact H
           clear H;have H:=H1;clear H1;have H':=am H;clear H;have p178 : 0 ≤ (x20_2 : Int):=odt (by first | (with_reducible assumption) | assumption);have q178 : x20_2 < (l2.length : Int):=odt (by first | (with_reducible assumption) | assumption);obtain ⟨ad178,e178,hx178_0,hx178_1⟩:=at_T76 HR2.out x20_2 p178 q178
           cases e178
           replace hx178_0:=(ct HB.out hx178_0 :)
           replace hx178_1:=(ct HB.out hx178_1 :)
           replace p178:=eq_true p178;replace q178:=eq_true q178;go_wp2_with (first | ((with_reducible refine gate_dst (N:=8) rfl ?_);(try (refine gate_guard (by rfl) ?_;dsimp only));refine box_event ?hg (N:=8) ?hd (cs:=#[.int .i64 0,.int .i64 0]) (t:=76) ?hr ?_;(case hd => rfl);(case hg => rfl);(case hr => first | (go_simp;done) | (go_simp;rfl));intro gb179 hg w25 hbox hb;have n0_:=am (blk_below (g:=gb176) (o:=.cells #[.int .i64 a0_0,.int .i64 a0_1,.slice A0_2 l0_2.length c0_2] 51 (0,0)) (by (with_reducible repeat (first | refine dN ?_ _ | refine dD ?_ | refine dA ?_ _));exact BK176.out) hb);have n1_:=am (below_step (by repeat (first | (with_reducible first | exact HB.out | apply bA | apply bN | apply bD | refine below_set ?_ GE176.out) | exact HB.out)) hb);have n2_:=am (hbox);have n3_:=am ((by rw [hg];exact (below_size (by repeat (first | (with_reducible first | exact HB.out | apply bA | apply bN | apply bD | refine below_set ?_ GE176.out) | exact HB.out))) : w.heap.size ≤ gb179));have n4_:=am ((by rw [hg];exact (below_size (by repeat (first | (with_reducible first | exact HB.out | apply bA | apply bN | apply bD | refine below_set ?_ GE176.out) | exact HB.out))) : w.heap.size ≤ gb179));have n5_:=am ((by rw [hg];exact Nat.ne_of_lt (blk_lt (g:=gb176) (o:=.cells #[.int .i64 a0_0,.int .i64 a0_1,.slice A0_2 l0_2.length c0_2] 51 (0,0)) (by (with_reducible repeat (first | refine dN ?_ _ | refine dD ?_ | refine dA ?_ _));exact BK176.out)) : gb176 ≠ gb179));have n6_:=am ((by rw [hg];exact Nat.ne_of_gt (blk_lt (g:=gb176) (o:=.cells #[.int .i64 a0_0,.int .i64 a0_1,.slice A0_2 l0_2.length c0_2] 51 (0,0)) (by (with_reducible repeat (first | refine dN ?_ _ | refine dD ?_ | refine dA ?_ _));exact BK176.out)) : gb179 ≠ gb176));clear BK176;clear HB;have BK176:=n0_;have HB:=n1_;have BK179:=n2_;have GW179:=n3_;have GE179:=n4_;have NB176_179:=n5_;have NB179_176:=n6_;clear n0_ n1_ n2_ n3_ n4_ n5_ n6_;clear hb hbox hg;have hnb26:=NB179_176.out;have hnc26:=NB176_179.out;have hcz27_0 : w25.cell? ⟨gb179,0,none⟩ = some (.int .i64 0):=(blk_cell BK179.out 0).trans rfl;have hcz27_1 : w25.cell? ⟨gb179,1,none⟩ = some (.int .i64 0):=(blk_cell BK179.out 1).trans rfl;have hfz27_0:=blk_frozen BK179.out 0;have hfz27_1:=blk_frozen BK179.out 1;have hcz28_0 : w25.cell? ⟨gb176,0,none⟩ = some (.int .i64 a0_0):=(blk_cell BK176.out 0).trans rfl;have hcz28_1 : w25.cell? ⟨gb176,1,none⟩ = some (.int .i64 a0_1):=(blk_cell BK176.out 1).trans rfl;have hcz28_2 : w25.cell? ⟨gb176,2,none⟩ = some (.slice A0_2 l0_2.length c0_2):=(blk_cell BK176.out 2).trans rfl;have hfz28_0:=blk_frozen BK176.out 0;have hfz28_1:=blk_frozen BK176.out 1;have hfz28_2:=blk_frozen BK176.out 2) | ((with_reducible refine gate_callee (f:=35) rfl ?_);refine goesL_ (some 28) rfl rfl Try.func35 (by kernel_rfl) rfl #[.agg #[.int .i64 a0_0,.int .i64 a0_1,.slice A0_2 l0_2.length c0_2],.int .i64 x1_2,.int .i64 ((rd_T76 l2 x20_2).f0)] rfl (by (try simp only [List.map_toArray,List.map_cons,List.map_nil]);first | done | rfl | (simp only [List.length_drop,List.length_take];rfl)) ?_;(with_reducible refine (impl_Days.calls k2 a0_0 a0_1 _ _ l0_2 x1_2 ((rd_T76 l2 x20_2).f0) t180 _ ?side1 ?side2 A16.out).mono ?_);(case side1 => exact Kd.C_below HR0_2.out (by repeat (first | (with_reducible first | exact HB.out | apply bA | apply bN | apply bD | refine below_set ?_ GE176.out | refine below_set ?_ GE179.out) | exact HB.out)));(case side2 => exact HC0_2.out);rintro e w29 ⟨rfl,hb⟩;refine ⟨_,rfl,?_⟩;have n0_:=am (blk_below (g:=gb176) (o:=.cells #[.int .i64 a0_0,.int .i64 a0_1,.slice A0_2 l0_2.length c0_2] 51 (0,0)) (by (with_reducible repeat (first | refine dN ?_ _ | refine dD ?_ | refine dA ?_ _));refine blk_far ?_ NB176_179.out _;(with_reducible repeat (first | refine dN ?_ _ | refine dD ?_ | refine dA ?_ _));refine blk_far ?_ NB176_179.out _;(with_reducible repeat (first | refine dN ?_ _ | refine dD ?_ | refine dA ?_ _));exact BK176.out) hb);have n1_:=am (blk_below (g:=gb179) (o:=.cells #[.int .i64 ((rd_T76 l2 x20_2).f0),.int .i64 ((rd_T76 l2 x20_2).f1)] 76 (0,0)) (by (with_reducible repeat (first | refine dN ?_ _ | refine dD ?_ | refine dA ?_ _));refine blk_put (cs:=#[.int .i64 ((rd_T76 l2 x20_2).f0),.int .i64 0]) ?_ 1 _ rfl;(with_reducible repeat (first | refine dN ?_ _ | refine dD ?_ | refine dA ?_ _));refine blk_put (cs:=#[.int .i64 0,.int .i64 0]) ?_ 0 _ rfl;(with_reducible repeat (first | refine dN ?_ _ | refine dD ?_ | refine dA ?_ _));exact BK179.out) hb);have n2_:=am (below_step (by repeat (first | (with_reducible first | exact HB.out | apply bA | apply bN | apply bD | refine below_set ?_ GE176.out | refine below_set ?_ GE179.out) | exact HB.out)) hb);clear BK176;clear BK179;clear HB;have BK176:=n0_;have BK179:=n1_;have HB:=n2_;clear n0_ n1_ n2_;(try clear hb);(try clear hb2);(try clear hk);(try clear hi);have hcz30_0 : w29.cell? ⟨gb179,0,none⟩ = some (.int .i64 ((rd_T76 l2 x20_2).f0)):=(blk_cell BK179.out 0).trans rfl;have hcz30_1 : w29.cell? ⟨gb179,1,none⟩ = some (.int .i64 ((rd_T76 l2 x20_2).f1)):=(blk_cell BK179.out 1).trans rfl;have hfz30_0:=blk_frozen BK179.out 0;have hfz30_1:=blk_frozen BK179.out 1) | (go_at_call 76;(with_reducible refine (impl_InRange.calls ((rd_T76 l2 x20_2).f1) 0 30 true _ A23.out).mono ?_);rintro e w' ⟨rfl,⟨nd,rfl⟩⟩))
           go_roundg k2
           case measure => have:=HJ3.out;have:=HK2.out;omega
           case rel => exact ⟨((rd_T76 l2 x20_2).f0),(wrap64 (x20_2 + 1)),(by first | rfl | (simp;done) | (simp [*];done)),(by first | rfl | (simp;done) | (simp [*];done)),H',⟨by have:=HJ3.out;have:=HK2.out;omega⟩,⟨by (with_reducible repeat (first | refine dN ?_ _ | refine dD ?_ | refine dA ?_ _));exact BK176.out⟩,⟨by repeat (first | (with_reducible first | exact HB.out | apply bA | apply bN | apply bD | refine below_set ?_ GE176.out | refine below_set ?_ GE179.out) | exact HB.out)⟩⟩
          ·replace c24:=Bool.eq_false_iff.mpr c24;subst c24;have H1 : (some false) = some r:=by rw [if_neg (show ¬ (false = true) by decide)] at H;exact H
           clear H;have H:=H1;clear H1;obtain rfl:=Option.some.inj H;have p178 : 0 ≤ (x20_2 : Int):=odt (by first | (with_reducible assumption) | assumption);have q178 : x20_2 < (l2.length : Int):=odt (by first | (with_reducible assumption) | assumption);obtain ⟨ad178,e178,hx178_0,hx178_1⟩:=at_T76 HR2.out x20_2 p178 q178
           cases e178
           replace hx178_0:=(ct HB.out hx178_0 :)
           replace hx178_1:=(ct HB.out hx178_1 :)
           replace p178:=eq_true p178;replace q178:=eq_true q178;go_wp2_with (first | ((with_reducible refine gate_dst (N:=8) rfl ?_);(try (refine gate_guard (by rfl) ?_;dsimp only));refine box_event ?hg (N:=8) ?hd (cs:=#[.int .i64 0,.int .i64 0]) (t:=76) ?hr ?_;(case hd => rfl);(case hg => rfl);(case hr => first | (go_simp;done) | (go_simp;rfl));intro gb179 hg w31 hbox hb;have n0_:=am (blk_below (g:=gb176) (o:=.cells #[.int .i64 a0_0,.int .i64 a0_1,.slice A0_2 l0_2.length c0_2] 51 (0,0)) (by (with_reducible repeat (first | refine dN ?_ _ | refine dD ?_ | refine dA ?_ _));exact BK176.out) hb);have n1_:=am (below_step (by repeat (first | (with_reducible first | exact HB.out | apply bA | apply bN | apply bD | refine below_set ?_ GE176.out) | exact HB.out)) hb);have n2_:=am (hbox);have n3_:=am ((by rw [hg];exact (below_size (by repeat (first | (with_reducible first | exact HB.out | apply bA | apply bN | apply bD | refine below_set ?_ GE176.out) | exact HB.out))) : w.heap.size ≤ gb179));have n4_:=am ((by rw [hg];exact (below_size (by repeat (first | (with_reducible first | exact HB.out | apply bA | apply bN | apply bD | refine below_set ?_ GE176.out) | exact HB.out))) : w.heap.size ≤ gb179));have n5_:=am ((by rw [hg];exact Nat.ne_of_lt (blk_lt (g:=gb176) (o:=.cells #[.int .i64 a0_0,.int .i64 a0_1,.slice A0_2 l0_2.length c0_2] 51 (0,0)) (by (with_reducible repeat (first | refine dN ?_ _ | refine dD ?_ | refine dA ?_ _));exact BK176.out)) : gb176 ≠ gb179));have n6_:=am ((by rw [hg];exact Nat.ne_of_gt (blk_lt (g:=gb176) (o:=.cells #[.int .i64 a0_0,.int .i64 a0_1,.slice A0_2 l0_2.length c0_2] 51 (0,0)) (by (with_reducible repeat (first | refine dN ?_ _ | refine dD ?_ | refine dA ?_ _));exact BK176.out)) : gb179 ≠ gb176));clear BK176;clear HB;have BK176:=n0_;have HB:=n1_;have BK179:=n2_;have GW179:=n3_;have GE179:=n4_;have NB176_179:=n5_;have NB179_176:=n6_;clear n0_ n1_ n2_ n3_ n4_ n5_ n6_;clear hb hbox hg;have hnb32:=NB179_176.out;have hnc32:=NB176_179.out;have hcz33_0 : w31.cell? ⟨gb179,0,none⟩ = some (.int .i64 0):=(blk_cell BK179.out 0).trans rfl;have hcz33_1 : w31.cell? ⟨gb179,1,none⟩ = some (.int .i64 0):=(blk_cell BK179.out 1).trans rfl;have hfz33_0:=blk_frozen BK179.out 0;have hfz33_1:=blk_frozen BK179.out 1;have hcz34_0 : w31.cell? ⟨gb176,0,none⟩ = some (.int .i64 a0_0):=(blk_cell BK176.out 0).trans rfl;have hcz34_1 : w31.cell? ⟨gb176,1,none⟩ = some (.int .i64 a0_1):=(blk_cell BK176.out 1).trans rfl;have hcz34_2 : w31.cell? ⟨gb176,2,none⟩ = some (.slice A0_2 l0_2.length c0_2):=(blk_cell BK176.out 2).trans rfl;have hfz34_0:=blk_frozen BK176.out 0;have hfz34_1:=blk_frozen BK176.out 1;have hfz34_2:=blk_frozen BK176.out 2) | ((with_reducible refine gate_callee (f:=35) rfl ?_);refine goesL_ (some 28) rfl rfl Try.func35 (by kernel_rfl) rfl #[.agg #[.int .i64 a0_0,.int .i64 a0_1,.slice A0_2 l0_2.length c0_2],.int .i64 x1_2,.int .i64 ((rd_T76 l2 x20_2).f0)] rfl (by (try simp only [List.map_toArray,List.map_cons,List.map_nil]);first | done | rfl | (simp only [List.length_drop,List.length_take];rfl)) ?_;(with_reducible refine (impl_Days.calls k2 a0_0 a0_1 _ _ l0_2 x1_2 ((rd_T76 l2 x20_2).f0) t180 _ ?side1 ?side2 A16.out).mono ?_);(case side1 => exact Kd.C_below HR0_2.out (by repeat (first | (with_reducible first | exact HB.out | apply bA | apply bN | apply bD | refine below_set ?_ GE176.out | refine below_set ?_ GE179.out) | exact HB.out)));(case side2 => exact HC0_2.out);rintro e w35 ⟨rfl,hb⟩;refine ⟨_,rfl,?_⟩;have n0_:=am (blk_below (g:=gb176) (o:=.cells #[.int .i64 a0_0,.int .i64 a0_1,.slice A0_2 l0_2.length c0_2] 51 (0,0)) (by (with_reducible repeat (first | refine dN ?_ _ | refine dD ?_ | refine dA ?_ _));refine blk_far ?_ NB176_179.out _;(with_reducible repeat (first | refine dN ?_ _ | refine dD ?_ | refine dA ?_ _));refine blk_far ?_ NB176_179.out _;(with_reducible repeat (first | refine dN ?_ _ | refine dD ?_ | refine dA ?_ _));exact BK176.out) hb);have n1_:=am (blk_below (g:=gb179) (o:=.cells #[.int .i64 ((rd_T76 l2 x20_2).f0),.int .i64 ((rd_T76 l2 x20_2).f1)] 76 (0,0)) (by (with_reducible repeat (first | refine dN ?_ _ | refine dD ?_ | refine dA ?_ _));refine blk_put (cs:=#[.int .i64 ((rd_T76 l2 x20_2).f0),.int .i64 0]) ?_ 1 _ rfl;(with_reducible repeat (first | refine dN ?_ _ | refine dD ?_ | refine dA ?_ _));refine blk_put (cs:=#[.int .i64 0,.int .i64 0]) ?_ 0 _ rfl;(with_reducible repeat (first | refine dN ?_ _ | refine dD ?_ | refine dA ?_ _));exact BK179.out) hb);have n2_:=am (below_step (by repeat (first | (with_reducible first | exact HB.out | apply bA | apply bN | apply bD | refine below_set ?_ GE176.out | refine below_set ?_ GE179.out) | exact HB.out)) hb);clear BK176;clear BK179;clear HB;have BK176:=n0_;have BK179:=n1_;have HB:=n2_;clear n0_ n1_ n2_;(try clear hb);(try clear hb2);(try clear hk);(try clear hi);have hcz36_0 : w35.cell? ⟨gb179,0,none⟩ = some (.int .i64 ((rd_T76 l2 x20_2).f0)):=(blk_cell BK179.out 0).trans rfl;have hcz36_1 : w35.cell? ⟨gb179,1,none⟩ = some (.int .i64 ((rd_T76 l2 x20_2).f1)):=(blk_cell BK179.out 1).trans rfl;have hfz36_0:=blk_frozen BK179.out 0;have hfz36_1:=blk_frozen BK179.out 1) | (go_at_call 76;(with_reducible refine (impl_InRange.calls ((rd_T76 l2 x20_2).f1) 0 30 false _ A23.out).mono ?_);rintro e w' ⟨rfl,⟨nd,rfl⟩⟩))
           go_ret
           exact ⟨by first | rfl | (simp [errW_none,errW_some] <;> rfl) | (simp [*,errW_none,errW_some] <;> rfl),by repeat (first | (with_reducible first | exact HB.out | apply bA | apply bN | apply bD | refine below_set ?_ GE176.out | refine below_set ?_ GE179.out) | exact HB.out)⟩
        ·rw [if_neg c15] at H;exact absurd H (by simp)
       ·rw [if_neg c14] at H;exact absurd H (by simp)
      ·rw [if_neg c13] at H;have c13b0 : decide (x20_2 < (l2.length : Int)) = false:=decide_eq_false c13;clear c13;obtain rfl:=Option.some.inj H;go_wp2
       go_ret
       exact ⟨by first | rfl | (simp [errW_none,errW_some] <;> rfl) | (simp [*,errW_none,errW_some] <;> rfl),by repeat (first | (with_reducible first | exact HB.out | apply bA | apply bN | apply bD | refine below_set ?_ GE176.out) | exact HB.out)⟩

/-! ### laws_szIntS: function 102 -/
def laws_szIntS.f (l0 : List Int) (a1 : Int) : Option (Int) := if (wrap64 (a1 - (l0.length : Int))) < 0 then (some (-1)) else (some (wrap64 (a1 - (l0.length : Int))))
set_option maxHeartbeats 8000000 in
set_option maxRecDepth 100000 in
theorem laws_szIntS.calls (A0 : Option Addr) (c0 : Nat) (l0 : List Int) (a1 : Int) (r : Int) (w : World) (hr0 : Kd.C (Kd.int .i64) w A0 l0.length l0) (hc0 : l0.length ≤ c0) (h : laws_szIntS.f l0 a1 = some r) :
  Calls Try.prog 102 #[.slice A0 l0.length c0,.int .i64 a1] w fun e w' => e = .returned (.int .i64 r) ∧ Drawn0 w w':=by
 have HR0:=am hr0;have HC0:=am hc0;clear hr0 hc0;have H : (if (wrap64 (a1 - (l0.length : Int))) < 0 then (some (-1)) else (some (wrap64 (a1 - (l0.length : Int))))) = some r:=h;clear h
 by_cases c3 : (wrap64 (a1 - (l0.length : Int))) < 0
 ·rw [if_pos c3] at H;have c3b0 : decide ((wrap64 (a1 - (l0.length : Int))) < 0) = true:=decide_eq_true c3;clear c3;obtain rfl:=Option.some.inj H
  go_enter Try.func102,Try.ntmps102
  go_wp2
  go_ret
  exact ⟨by first | rfl | (simp;done) | (simp [*];done),by repeat (first | exact Drawn0.refl _ | apply Drawn0.step)⟩
 ·rw [if_neg c3] at H;have c3b0 : decide ((wrap64 (a1 - (l0.length : Int))) < 0) = false:=decide_eq_false c3;clear c3;obtain rfl:=Option.some.inj H
  go_enter Try.func102,Try.ntmps102
  go_wp2
  go_ret
  exact ⟨by first | rfl | (simp;done) | (simp [*];done),by repeat (first | exact Drawn0.refl _ | apply Drawn0.step)⟩

/-! ### laws_szLand: function 53 -/
def laws_szLand.f (a0_0 : Int) (a0_1 : Int) (l0_2 : List Int) (a1 : Int) : Option (Int) := (laws_szIntS.f l0_2 a1).bind fun t183 => (if t183 < 0 then (some (-1)) else (some t183))
set_option maxHeartbeats 8000000 in
set_option maxRecDepth 100000 in
theorem laws_szLand.calls (a0_0 : Int) (a0_1 : Int) (A0_2 : Option Addr) (c0_2 : Nat) (l0_2 : List Int) (a1 : Int) (r : Int) (w : World) (hr0_2 : Kd.C (Kd.int .i64) w A0_2 l0_2.length l0_2) (hc0_2 : l0_2.length ≤ c0_2) (h : laws_szLand.f a0_0 a0_1 l0_2 a1 = some r) :
  Calls Try.prog 53 #[.agg #[.int .i64 a0_0,.int .i64 a0_1,.slice A0_2 l0_2.length c0_2],.int .i64 a1] w fun e w' => e = .returned (.int .i64 r) ∧ Below w.heap.size w w':=by
 have hu81:=Try.underlying81;have HR0_2:=am hr0_2;have HC0_2:=am hc0_2;clear hr0_2 hc0_2;have HB:=am (Below.refl w.heap.size w);have H : ((laws_szIntS.f l0_2 a1).bind fun t183 => (if t183 < 0 then (some (-1)) else (some t183))) = some r:=h;clear h;replace H:=bS.mp H;obtain ⟨t183,A30,H⟩:=H;replace H : (if t183 < 0 then (some (-1)) else (some t183)) = some r:=H;have A3:=am A30;clear A30
 by_cases c4 : t183 < 0
 ·rw [if_pos c4] at H;have c4b0 : decide (t183 < 0) = true:=decide_eq_true c4;clear c4;obtain rfl:=Option.some.inj H
  go_enter Try.func53,Try.ntmps53
  go_wp2_with (first | ((with_reducible refine gate_dst (N:=2) rfl ?_);refine box_event ?hg (N:=2) ?hd (cs:=#[.int .i64 a0_0,.int .i64 a0_1,.slice A0_2 l0_2.length c0_2]) (t:=81) ?hr ?_;(case hd => rfl);(case hg => rfl);(case hr => first | (go_simp;done) | (go_simp;rfl));intro gb182 hg w5 hbox hb;have n0_:=am (below_step (by repeat (first | (with_reducible first | exact HB.out | apply bA | apply bN | apply bD) | exact HB.out)) hb);have n1_:=am (hbox);have n2_:=am ((by rw [hg];exact (below_size (by repeat (first | (with_reducible first | exact HB.out | apply bA | apply bN | apply bD) | exact HB.out))) : w.heap.size ≤ gb182));have n3_:=am ((by rw [hg];exact (below_size (by repeat (first | (with_reducible first | exact HB.out | apply bA | apply bN | apply bD) | exact HB.out))) : w.heap.size ≤ gb182));clear HB;have HB:=n0_;have BK182:=n1_;have GW182:=n2_;have GE182:=n3_;clear n0_ n1_ n2_ n3_;clear hb hbox hg;have hcz6_0 : w5.cell? ⟨gb182,0,none⟩ = some (.int .i64 a0_0):=(blk_cell BK182.out 0).trans rfl;have hcz6_1 : w5.cell? ⟨gb182,1,none⟩ = some (.int .i64 a0_1):=(blk_cell BK182.out 1).trans rfl;have hcz6_2 : w5.cell? ⟨gb182,2,none⟩ = some (.slice A0_2 l0_2.length c0_2):=(blk_cell BK182.out 2).trans rfl;have hfz6_0:=blk_frozen BK182.out 0;have hfz6_1:=blk_frozen BK182.out 1;have hfz6_2:=blk_frozen BK182.out 2) | ((with_reducible refine gate_callee (f:=102) rfl ?_);refine goesL_ (some 8) rfl rfl Try.func102 (by kernel_rfl) rfl #[.slice A0_2 l0_2.length c0_2,.int .i64 a1] rfl (by (try simp only [List.map_toArray,List.map_cons,List.map_nil]);first | done | rfl | (simp only [List.length_drop,List.length_take];rfl)) ?_;(with_reducible refine (laws_szIntS.calls _ _ l0_2 a1 t183 _ ?side1 ?side2 A3.out).mono ?_);(case side1 => repeat (first | exact (Kd.C_below HR0_2.out HB.out) | (with_reducible refine cA ?_ _) | (with_reducible refine cN ?_ _) | (with_reducible refine cD ?_)));(case side2 => exact HC0_2.out);rintro e w' ⟨rfl,⟨nd,rfl⟩⟩;refine ⟨_,rfl,?_⟩))
  go_ret
  exact ⟨by first | rfl | (simp [errW_none,errW_some] <;> rfl) | (simp [*,errW_none,errW_some] <;> rfl),by repeat (first | (with_reducible first | exact HB.out | apply bA | apply bN | apply bD | refine below_set ?_ GE182.out) | exact HB.out)⟩
 ·rw [if_neg c4] at H;have c4b0 : decide (t183 < 0) = false:=decide_eq_false c4;clear c4;obtain rfl:=Option.some.inj H
  go_enter Try.func53,Try.ntmps53
  go_wp2_with (first | ((with_reducible refine gate_dst (N:=2) rfl ?_);refine box_event ?hg (N:=2) ?hd (cs:=#[.int .i64 a0_0,.int .i64 a0_1,.slice A0_2 l0_2.length c0_2]) (t:=81) ?hr ?_;(case hd => rfl);(case hg => rfl);(case hr => first | (go_simp;done) | (go_simp;rfl));intro gb182 hg w7 hbox hb;have n0_:=am (below_step (by repeat (first | (with_reducible first | exact HB.out | apply bA | apply bN | apply bD) | exact HB.out)) hb);have n1_:=am (hbox);have n2_:=am ((by rw [hg];exact (below_size (by repeat (first | (with_reducible first | exact HB.out | apply bA | apply bN | apply bD) | exact HB.out))) : w.heap.size ≤ gb182));have n3_:=am ((by rw [hg];exact (below_size (by repeat (first | (with_reducible first | exact HB.out | apply bA | apply bN | apply bD) | exact HB.out))) : w.heap.size ≤ gb182));clear HB;have HB:=n0_;have BK182:=n1_;have GW182:=n2_;have GE182:=n3_;clear n0_ n1_ n2_ n3_;clear hb hbox hg;have hcz8_0 : w7.cell? ⟨gb182,0,none⟩ = some (.int .i64 a0_0):=(blk_cell BK182.out 0).trans rfl;have hcz8_1 : w7.cell? ⟨gb182,1,none⟩ = some (.int .i64 a0_1):=(blk_cell BK182.out 1).trans rfl;have hcz8_2 : w7.cell? ⟨gb182,2,none⟩ = some (.slice A0_2 l0_2.length c0_2):=(blk_cell BK182.out 2).trans rfl;have hfz8_0:=blk_frozen BK182.out 0;have hfz8_1:=blk_frozen BK182.out 1;have hfz8_2:=blk_frozen BK182.out 2) | ((with_reducible refine gate_callee (f:=102) rfl ?_);refine goesL_ (some 8) rfl rfl Try.func102 (by kernel_rfl) rfl #[.slice A0_2 l0_2.length c0_2,.int .i64 a1] rfl (by (try simp only [List.map_toArray,List.map_cons,List.map_nil]);first | done | rfl | (simp only [List.length_drop,List.length_take];rfl)) ?_;(with_reducible refine (laws_szIntS.calls _ _ l0_2 a1 t183 _ ?side1 ?side2 A3.out).mono ?_);(case side1 => repeat (first | exact (Kd.C_below HR0_2.out HB.out) | (with_reducible refine cA ?_ _) | (with_reducible refine cN ?_ _) | (with_reducible refine cD ?_)));(case side2 => exact HC0_2.out);rintro e w' ⟨rfl,⟨nd,rfl⟩⟩;refine ⟨_,rfl,?_⟩))
  go_ret
  exact ⟨by first | rfl | (simp [errW_none,errW_some] <;> rfl) | (simp [*,errW_none,errW_some] <;> rfl),by repeat (first | (with_reducible first | exact HB.out | apply bA | apply bN | apply bD | refine below_set ?_ GE182.out) | exact HB.out)⟩

/-! ### laws_szLegS: function 54 -/
def laws_szLegS.f (l0 : List (S130)) (a1 : Int) : Option (Int) := if (wrap64 (a1 - (l0.length : Int))) < 0 then (some (-1)) else (some (wrap64 (a1 - (l0.length : Int))))
set_option maxHeartbeats 8000000 in
set_option maxRecDepth 100000 in
theorem laws_szLegS.calls (A0 : Option Addr) (c0 : Nat) (l0 : List (S130)) (a1 : Int) (r : Int) (w : World) (hr0 : Kd.C k130 w A0 l0.length l0) (hc0 : l0.length ≤ c0) (h : laws_szLegS.f l0 a1 = some r) :
  Calls Try.prog 54 #[.slice A0 l0.length c0,.int .i64 a1] w fun e w' => e = .returned (.int .i64 r) ∧ Drawn0 w w':=by
 have HR0:=am hr0;have HC0:=am hc0;clear hr0 hc0;have H : (if (wrap64 (a1 - (l0.length : Int))) < 0 then (some (-1)) else (some (wrap64 (a1 - (l0.length : Int))))) = some r:=h;clear h
 by_cases c3 : (wrap64 (a1 - (l0.length : Int))) < 0
 ·rw [if_pos c3] at H;have c3b0 : decide ((wrap64 (a1 - (l0.length : Int))) < 0) = true:=decide_eq_true c3;clear c3;obtain rfl:=Option.some.inj H
  go_enter Try.func54,Try.ntmps54
  go_wp2
  go_ret
  exact ⟨by first | rfl | (simp;done) | (simp [*];done),by repeat (first | exact Drawn0.refl _ | apply Drawn0.step)⟩
 ·rw [if_neg c3] at H;have c3b0 : decide ((wrap64 (a1 - (l0.length : Int))) < 0) = false:=decide_eq_false c3;clear c3;obtain rfl:=Option.some.inj H
  go_enter Try.func54,Try.ntmps54
  go_wp2
  go_ret
  exact ⟨by first | rfl | (simp;done) | (simp [*];done),by repeat (first | exact Drawn0.refl _ | apply Drawn0.step)⟩

/-! ### spec_l1In: function 104 -/
def spec_l1In.f (a0 : Int) (a1 : Int) (a2 : Int) : Option (Bool) := if a0 ≥ a1 then (some (decide (a0 ≤ a2))) else (some false)
set_option maxHeartbeats 8000000 in
set_option maxRecDepth 100000 in
theorem spec_l1In.calls (a0 : Int) (a1 : Int) (a2 : Int) (r : Bool) (w : World) (h : spec_l1In.f a0 a1 a2 = some r) :
  Calls Try.prog 104 #[.int .i64 a0,.int .i64 a1,.int .i64 a2] w fun e w' => e = .returned (.bool r) ∧ Drawn0 w w':=by
 have H : (if a0 ≥ a1 then (some (decide (a0 ≤ a2))) else (some false)) = some r:=h;clear h
 by_cases c4 : a0 ≥ a1
 ·rw [if_pos c4] at H;have c4b0 : decide (a1 ≤ a0) = true:=decide_eq_true c4;clear c4;obtain rfl:=Option.some.inj H
  go_enter Try.func104,Try.ntmps104
  go_wp2
  go_ret
  exact ⟨by first | rfl | (simp;done) | (simp [*];done),by repeat (first | exact Drawn0.refl _ | apply Drawn0.step)⟩
 ·rw [if_neg c4] at H;have c4b0 : decide (a1 ≤ a0) = false:=decide_eq_false c4;clear c4;obtain rfl:=Option.some.inj H
  go_enter Try.func104,Try.ntmps104
  go_wp2
  go_ret
  exact ⟨by first | rfl | (simp;done) | (simp [*];done),by repeat (first | exact Drawn0.refl _ | apply Drawn0.step)⟩

/-! ### spec_IsLand: function 147 -/
mutual
def spec_IsLand.j0 : Nat → Bool → Int → Int → List Int → Option (Bool)
 | 0,_,_,_,_ => none
 | k + 1,x24,x185000,x185001,x185002 => if x24 = true then (some false) else (spec_IsLand.l0 k 0 x185000 x185001 x185002)
def spec_IsLand.l0 : Nat → Int → Int → Int → List Int → Option (Bool)
 | 0,_,_,_,_ => none
 | k + 1,x3,x185000,x185001,x185002 => if x3 < (x185002.length : Int) then (if 0 ≤ x3 then ((spec_l1In.f (rd x185002 x3) 0 2).bind fun t188 => (if t188 = true then (spec_IsLand.l0 k (wrap64 (x3 + 1)) x185000 x185001 x185002) else (some false))) else (none)) else (some true)
end
def spec_IsLand.f (k : Nat) (a0_0 : Int) (a0_1 : Int) (l0_2 : List Int) : Option (Bool) := (spec_l1In.f a0_0 1 8).bind fun t185 => (if t185 = true then ((spec_l1In.f a0_1 1 8).bind fun t186 => (if t186 = true then (spec_IsLand.j0 k ((l0_2.length : Int) != (wrap64 (a0_0 * a0_1))) a0_0 a0_1 l0_2) else (spec_IsLand.j0 k true a0_0 a0_1 l0_2))) else (spec_IsLand.j0 k true a0_0 a0_1 l0_2))
theorem spec_IsLand.mono_l : ∀ k, (∀ y0 y1 y2 y3, LeO (spec_IsLand.j0 k y0 y1 y2 y3) (spec_IsLand.j0 (k + 1) y0 y1 y2 y3)) ∧ (∀ y0 y1 y2 y3, LeO (spec_IsLand.l0 k y0 y1 y2 y3) (spec_IsLand.l0 (k + 1) y0 y1 y2 y3))
 | 0 => ⟨fun _ _ _ _ r h => by simp [spec_IsLand.j0] at h,fun _ _ _ _ r h => by simp [spec_IsLand.l0] at h⟩
 | k + 1 => by
  obtain ⟨ih0,ih1⟩:=spec_IsLand.mono_l k
  refine ⟨?_,?_⟩
  ·intro y0 y1 y2 y3
   unfold spec_IsLand.j0
   repeat' first
   | (with_reducible exact ih0 _ _ _ _)
   | (with_reducible exact ih1 _ _ _ _)
   | (with_reducible exact LeO.refl _)
   | (with_reducible exact LeO.none _)
   | (with_reducible refine LeO.ite ?_ ?_)
   | (with_reducible refine LeO.bind ?_ (fun _ => ?_))
   | exact ih0 _ _ _ _
   | exact ih1 _ _ _ _
   | exact LeO.none _
   | refine LeO.ite ?_ ?_
   | refine LeO.bind ?_ (fun _ => ?_)
  ·intro y0 y1 y2 y3
   unfold spec_IsLand.l0
   repeat' first
   | (with_reducible exact ih0 _ _ _ _)
   | (with_reducible exact ih1 _ _ _ _)
   | (with_reducible exact LeO.refl _)
   | (with_reducible exact LeO.none _)
   | (with_reducible refine LeO.ite ?_ ?_)
   | (with_reducible refine LeO.bind ?_ (fun _ => ?_))
   | exact ih0 _ _ _ _
   | exact ih1 _ _ _ _
   | exact LeO.none _
   | refine LeO.ite ?_ ?_
   | refine LeO.bind ?_ (fun _ => ?_)
theorem spec_IsLand.mono : ∀ a0 a1 a2 k, LeO (spec_IsLand.f k a0 a1 a2) (spec_IsLand.f (k + 1) a0 a1 a2) := by
 intro a0 a1 a2 k
 obtain ⟨ih0,ih1⟩:=spec_IsLand.mono_l k
 unfold spec_IsLand.f
 repeat' first
   | (with_reducible exact ih0 _ _ _ _)
   | (with_reducible exact ih1 _ _ _ _)
   | (with_reducible exact LeO.refl _)
   | (with_reducible exact LeO.none _)
   | (with_reducible refine LeO.ite ?_ ?_)
   | (with_reducible refine LeO.bind ?_ (fun _ => ?_))
   | exact ih0 _ _ _ _
   | exact ih1 _ _ _ _
   | exact LeO.none _
   | refine LeO.ite ?_ ?_
   | refine LeO.bind ?_ (fun _ => ?_)
set_option maxHeartbeats 8000000 in
set_option maxRecDepth 100000 in
theorem spec_IsLand.calls (k : Nat) (a0_0 : Int) (a0_1 : Int) (A0_2 : Option Addr) (c0_2 : Nat) (l0_2 : List Int) (r : Bool) (w : World) (hr0_2 : Kd.C (Kd.int .i64) w A0_2 l0_2.length l0_2) (hc0_2 : l0_2.length ≤ c0_2) (h : spec_IsLand.f k a0_0 a0_1 l0_2 = some r) :
  Calls Try.prog 147 #[.agg #[.int .i64 a0_0,.int .i64 a0_1,.slice A0_2 l0_2.length c0_2]] w fun e w' => e = .returned (.bool r) ∧ Below w.heap.size w w':=by
 have hu51:=Try.underlying51;have HR0_2:=am hr0_2;have HC0_2:=am hc0_2;clear hr0_2 hc0_2;have HB:=am (Below.refl w.heap.size w);have H : ((spec_l1In.f a0_0 1 8).bind fun t185 => (if t185 = true then ((spec_l1In.f a0_1 1 8).bind fun t186 => (if t186 = true then (spec_IsLand.j0 k ((l0_2.length : Int) != (wrap64 (a0_0 * a0_1))) a0_0 a0_1 l0_2) else (spec_IsLand.j0 k true a0_0 a0_1 l0_2))) else (spec_IsLand.j0 k true a0_0 a0_1 l0_2))) = some r:=h;clear h;have HC2:=am H;clear H
 go_enter Try.func147,Try.ntmps147
 go_upto_region 1 with (first | ((with_reducible refine gate_dst (N:=1) rfl ?_);(try (refine gate_guard (by rfl) ?_;dsimp only));refine box_event ?hg (N:=1) ?hd (cs:=#[.int .i64 a0_0,.int .i64 a0_1,.slice A0_2 l0_2.length c0_2]) (t:=51) ?hr ?_;(case hd => rfl);(case hg => rfl);(case hr => first | (go_simp;done) | (go_simp;rfl));intro gb184 hg w3 hbox hb;have n0_:=am (below_step (by repeat (first | (with_reducible first | exact HB.out | apply bA | apply bN | apply bD) | exact HB.out)) hb);have n1_:=am (hbox);have n2_:=am ((by rw [hg];exact (below_size (by repeat (first | (with_reducible first | exact HB.out | apply bA | apply bN | apply bD) | exact HB.out))) : w.heap.size ≤ gb184));have n3_:=am ((by rw [hg];exact (below_size (by repeat (first | (with_reducible first | exact HB.out | apply bA | apply bN | apply bD) | exact HB.out))) : w.heap.size ≤ gb184));clear HB;have HB:=n0_;have BK184:=n1_;have GW184:=n2_;have GE184:=n3_;clear n0_ n1_ n2_ n3_;clear hb hbox hg))
 (try simp only [Act.put,sA,s0,s1])
 go_cut [24] (fun v24 wc => ∃ (kq : Nat) (x24_1 : Bool),v24 = .bool x24_1 ∧ Aside0 (spec_IsLand.j0 kq x24_1 a0_0 a0_1 l0_2 = some r) ∧ Aside0 (kq ≤ k) ∧ Aside0 (wc.heap[gb184]? = some (.cells #[.int .i64 a0_0,.int .i64 a0_1,(.slice A0_2 l0_2.length c0_2)] 51 (0,0))) ∧ Aside0 (Below w.heap.size w wc))
 case first =>
  have H:=HC2.out;clear HC2;replace H:=bS.mp H;obtain ⟨t185,A40,H⟩:=H;replace H : (if t185 = true then ((spec_l1In.f a0_1 1 8).bind fun t186 => (if t186 = true then (spec_IsLand.j0 k ((l0_2.length : Int) != (wrap64 (a0_0 * a0_1))) a0_0 a0_1 l0_2) else (spec_IsLand.j0 k true a0_0 a0_1 l0_2))) else (spec_IsLand.j0 k true a0_0 a0_1 l0_2)) = some r:=H;have A4:=am A40;clear A40
  by_cases c5 : t185 = true
  ·subst c5;have H1 : ((spec_l1In.f a0_1 1 8).bind fun t186 => (if t186 = true then (spec_IsLand.j0 k ((l0_2.length : Int) != (wrap64 (a0_0 * a0_1))) a0_0 a0_1 l0_2) else (spec_IsLand.j0 k true a0_0 a0_1 l0_2))) = some r:=by rw [if_pos rfl] at H;exact H
   clear H;have H:=H1;clear H1;replace H:=bS.mp H;obtain ⟨t186,A60,H⟩:=H;replace H : (if t186 = true then (spec_IsLand.j0 k ((l0_2.length : Int) != (wrap64 (a0_0 * a0_1))) a0_0 a0_1 l0_2) else (spec_IsLand.j0 k true a0_0 a0_1 l0_2)) = some r:=H;have A6:=am A60;clear A60
   by_cases c7 : t186 = true
   ·subst c7;have H1 : (spec_IsLand.j0 k ((l0_2.length : Int) != (wrap64 (a0_0 * a0_1))) a0_0 a0_1 l0_2) = some r:=by rw [if_pos rfl] at H;exact H
    clear H;have H:=H1;clear H1;have H':=am H;clear H;have hcz8_0 : w3.cell? ⟨gb184,0,none⟩ = some (.int .i64 a0_0):=(blk_cell BK184.out 0).trans rfl;have hcz8_1 : w3.cell? ⟨gb184,1,none⟩ = some (.int .i64 a0_1):=(blk_cell BK184.out 1).trans rfl;have hcz8_2 : w3.cell? ⟨gb184,2,none⟩ = some (.slice A0_2 l0_2.length c0_2):=(blk_cell BK184.out 2).trans rfl;have hfz8_0:=blk_frozen BK184.out 0;have hfz8_1:=blk_frozen BK184.out 1;have hfz8_2:=blk_frozen BK184.out 2;go_wp2_with (first | ((with_reducible refine gate_callee (f:=104) rfl ?_);refine goesL_ (some 6) rfl rfl Try.func104 (by kernel_rfl) rfl #[.int .i64 a0_0,.int .i64 1,.int .i64 8] rfl (by (try simp only [List.map_toArray,List.map_cons,List.map_nil]);first | done | rfl | (simp only [List.length_drop,List.length_take];rfl)) ?_;(with_reducible refine (spec_l1In.calls a0_0 1 8 true _ A4.out).mono ?_);rintro e w' ⟨rfl,⟨nd,rfl⟩⟩;refine ⟨_,rfl,?_⟩) | (go_at_call 104;(with_reducible refine (spec_l1In.calls a0_1 1 8 true _ A6.out).mono ?_);rintro e w' ⟨rfl,⟨nd,rfl⟩⟩))
    go_meet
    case rel => exact ⟨_,(((l0_2.length : Int) != (wrap64 (a0_0 * a0_1)))),(by first | rfl | (simp;done) | (simp [*];done)),H',⟨by first | omega | exact Nat.le_refl _⟩,⟨by (with_reducible repeat (first | refine dN ?_ _ | refine dD ?_ | refine dA ?_ _));exact BK184.out⟩,⟨by repeat (first | (with_reducible first | exact HB.out | apply bA | apply bN | apply bD | refine below_set ?_ GE184.out) | exact HB.out)⟩⟩
   ·replace c7:=Bool.eq_false_iff.mpr c7;subst c7;have H1 : (spec_IsLand.j0 k true a0_0 a0_1 l0_2) = some r:=by rw [if_neg (show ¬ (false = true) by decide)] at H;exact H
    clear H;have H:=H1;clear H1;have H':=am H;clear H;have hcz9_0 : w3.cell? ⟨gb184,0,none⟩ = some (.int .i64 a0_0):=(blk_cell BK184.out 0).trans rfl;have hcz9_1 : w3.cell? ⟨gb184,1,none⟩ = some (.int .i64 a0_1):=(blk_cell BK184.out 1).trans rfl;have hcz9_2 : w3.cell? ⟨gb184,2,none⟩ = some (.slice A0_2 l0_2.length c0_2):=(blk_cell BK184.out 2).trans rfl;have hfz9_0:=blk_frozen BK184.out 0;have hfz9_1:=blk_frozen BK184.out 1;have hfz9_2:=blk_frozen BK184.out 2;go_wp2_with (first | ((with_reducible refine gate_callee (f:=104) rfl ?_);refine goesL_ (some 6) rfl rfl Try.func104 (by kernel_rfl) rfl #[.int .i64 a0_0,.int .i64 1,.int .i64 8] rfl (by (try simp only [List.map_toArray,List.map_cons,List.map_nil]);first | done | rfl | (simp only [List.length_drop,List.length_take];rfl)) ?_;(with_reducible refine (spec_l1In.calls a0_0 1 8 true _ A4.out).mono ?_);rintro e w' ⟨rfl,⟨nd,rfl⟩⟩;refine ⟨_,rfl,?_⟩) | (go_at_call 104;(with_reducible refine (spec_l1In.calls a0_1 1 8 false _ A6.out).mono ?_);rintro e w' ⟨rfl,⟨nd,rfl⟩⟩))
    go_meet
    case rel => exact ⟨_,(true),(by first | rfl | (simp;done) | (simp [*];done)),H',⟨by first | omega | exact Nat.le_refl _⟩,⟨by (with_reducible repeat (first | refine dN ?_ _ | refine dD ?_ | refine dA ?_ _));exact BK184.out⟩,⟨by repeat (first | (with_reducible first | exact HB.out | apply bA | apply bN | apply bD | refine below_set ?_ GE184.out) | exact HB.out)⟩⟩
  ·replace c5:=Bool.eq_false_iff.mpr c5;subst c5;have H1 : (spec_IsLand.j0 k true a0_0 a0_1 l0_2) = some r:=by rw [if_neg (show ¬ (false = true) by decide)] at H;exact H
   clear H;have H:=H1;clear H1;have H':=am H;clear H;have hcz10_0 : w3.cell? ⟨gb184,0,none⟩ = some (.int .i64 a0_0):=(blk_cell BK184.out 0).trans rfl;have hcz10_1 : w3.cell? ⟨gb184,1,none⟩ = some (.int .i64 a0_1):=(blk_cell BK184.out 1).trans rfl;have hcz10_2 : w3.cell? ⟨gb184,2,none⟩ = some (.slice A0_2 l0_2.length c0_2):=(blk_cell BK184.out 2).trans rfl;have hfz10_0:=blk_frozen BK184.out 0;have hfz10_1:=blk_frozen BK184.out 1;have hfz10_2:=blk_frozen BK184.out 2;go_wp2_with (first | ((with_reducible refine gate_callee (f:=104) rfl ?_);refine goesL_ (some 6) rfl rfl Try.func104 (by kernel_rfl) rfl #[.int .i64 a0_0,.int .i64 1,.int .i64 8] rfl (by (try simp only [List.map_toArray,List.map_cons,List.map_nil]);first | done | rfl | (simp only [List.length_drop,List.length_take];rfl)) ?_;(with_reducible refine (spec_l1In.calls a0_0 1 8 false _ A4.out).mono ?_);rintro e w' ⟨rfl,⟨nd,rfl⟩⟩;refine ⟨_,rfl,?_⟩))
   go_meet
   case rel => exact ⟨_,(true),(by first | rfl | (simp;done) | (simp [*];done)),H',⟨by first | omega | exact Nat.le_refl _⟩,⟨by (with_reducible repeat (first | refine dN ?_ _ | refine dD ?_ | refine dA ?_ _));exact BK184.out⟩,⟨by repeat (first | (with_reducible first | exact HB.out | apply bA | apply bN | apply bD | refine below_set ?_ GE184.out) | exact HB.out)⟩⟩
 case rest =>
  clear HC2
  try clear c1
  try clear p2
  try clear c5
  try clear p6
  try clear c7
  try clear c10
  try clear hcz10_0
  try clear hcz10_1
  try clear hcz10_2
  try clear hcz8_0
  try clear hcz8_1
  try clear hcz8_2
  try clear hcz9_0
  try clear hcz9_1
  try clear hcz9_2
  try clear hfz10_0
  try clear hfz10_1
  try clear hfz10_2
  try clear hfz8_0
  try clear hfz8_1
  try clear hfz8_2
  try clear hfz9_0
  try clear hfz9_1
  try clear hfz9_2
  obtain ⟨kq,x24_1,rfl,HA,HJ1,BK184,HB⟩:=hcut
  cases kq with
  | zero => exact absurd HA.out (by simp [spec_IsLand.j0])
  | succ kj1 =>
   have H:=HA.out;clear HA;simp only [spec_IsLand.j0] at H
   by_cases c11 : x24_1 = true
   ·subst c11;have H1 : (some false) = some r:=by rw [if_pos rfl] at H;exact H
    clear H;have H:=H1;clear H1;obtain rfl:=Option.some.inj H;go_wp2
    go_ret
    exact ⟨by first | rfl | (simp [errW_none,errW_some] <;> rfl) | (simp [*,errW_none,errW_some] <;> rfl),by repeat (first | (with_reducible first | exact HB.out | apply bA | apply bN | apply bD | refine below_set ?_ GE184.out) | exact HB.out)⟩
   ·replace c11:=Bool.eq_false_iff.mpr c11;subst c11;have H1 : (spec_IsLand.l0 kj1 0 a0_0 a0_1 l0_2) = some r:=by rw [if_neg (show ¬ (false = true) by decide)] at H;exact H
    clear H;have H:=H1;clear H1;have H':=am H;clear H;go_wp2
    go_loopg [3] kj1 (fun kq v3 w' => ∃ (x3_2 : Int),v3 = .int .i64 x3_2 ∧ Aside0 (spec_IsLand.l0 kq x3_2 a0_0 a0_1 l0_2 = some r) ∧ Aside0 (kq ≤ kj1) ∧ Aside0 (w'.heap[gb184]? = some (.cells #[.int .i64 a0_0,.int .i64 a0_1,(.slice A0_2 l0_2.length c0_2)] 51 (0,0))) ∧ Aside0 (Below w.heap.size w w'))
    case atStart => exact ⟨(0),(by first | rfl | (simp;done) | (simp [*];done)),H',⟨Nat.le_refl _⟩,⟨by (with_reducible repeat (first | refine dN ?_ _ | refine dD ?_ | refine dA ?_ _));exact BK184.out⟩,⟨by repeat (first | (with_reducible first | exact HB.out | apply bA | apply bN | apply bD | refine below_set ?_ GE184.out) | exact HB.out)⟩⟩
    case round =>
     clear H'
     try clear c1
     try clear p2
     try clear c5
     try clear p6
     try clear c7
     try clear c10
     try clear c11
     try clear hcz10_0
     try clear hcz10_1
     try clear hcz10_2
     try clear hcz8_0
     try clear hcz8_1
     try clear hcz8_2
     try clear hcz9_0
     try clear hcz9_1
     try clear hcz9_2
     try clear hfz10_0
     try clear hfz10_1
     try clear hfz10_2
     try clear hfz8_0
     try clear hfz8_1
     try clear hfz8_2
     try clear hfz9_0
     try clear hfz9_1
     try clear hfz9_2
     try clear p2
     try clear p6
     obtain ⟨x3_2,rfl,HA,HK2,BK184,HB⟩:=hrel
     cases gk with
     | zero => exact absurd HA.out (by simp [spec_IsLand.l0])
     | succ k2 =>
      have H:=HA.out;clear HA;simp only [spec_IsLand.l0] at H
      by_cases c12 : x3_2 < (l0_2.length : Int)
      ·rw [if_pos c12] at H;have c12b0 : decide (x3_2 < (l0_2.length : Int)) = true:=decide_eq_true c12;clear c12
       by_cases c13 : 0 ≤ x3_2
       ·rw [if_pos c13] at H;have c13b0 : decide (0 ≤ x3_2) = true:=decide_eq_true c13;clear c13;replace H:=bS.mp H;obtain ⟨t188,A140,H⟩:=H;replace H : (if t188 = true then (spec_IsLand.l0 k2 (wrap64 (x3_2 + 1)) a0_0 a0_1 l0_2) else (some false)) = some r:=H;have A14:=am A140;clear A140
        by_cases c15 : t188 = true
        ·subst c15;have H1 : (spec_IsLand.l0 k2 (wrap64 (x3_2 + 1)) a0_0 a0_1 l0_2) = some r:=by rw [if_pos rfl] at H;exact H
         clear H;have H:=H1;clear H1;have H':=am H;clear H;have hcz16_0 : wr.cell? ⟨gb184,0,none⟩ = some (.int .i64 a0_0):=(blk_cell BK184.out 0).trans rfl;have hcz16_1 : wr.cell? ⟨gb184,1,none⟩ = some (.int .i64 a0_1):=(blk_cell BK184.out 1).trans rfl;have hcz16_2 : wr.cell? ⟨gb184,2,none⟩ = some (.slice A0_2 l0_2.length c0_2):=(blk_cell BK184.out 2).trans rfl;have hfz16_0:=blk_frozen BK184.out 0;have hfz16_1:=blk_frozen BK184.out 1;have hfz16_2:=blk_frozen BK184.out 2;have p187 : 0 ≤ (x3_2 : Int):=odt (by first | (with_reducible assumption) | assumption);have q187 : x3_2 < (l0_2.length : Int):=odt (by first | (with_reducible assumption) | assumption);obtain ⟨ad187,e187,hx187_0⟩:=Kd.at_int HR0_2.out x3_2 p187 q187
         cases e187
         replace hx187_0:=(ct HB.out hx187_0 :)
         replace p187:=eq_true p187;replace q187:=eq_true q187;go_wp2_with (first | ((with_reducible refine gate_callee (f:=104) rfl ?_);refine goesL_ (some 37) rfl rfl Try.func104 (by kernel_rfl) rfl #[.int .i64 (rd l0_2 x3_2),.int .i64 0,.int .i64 2] rfl (by (try simp only [List.map_toArray,List.map_cons,List.map_nil]);first | done | rfl | (simp only [List.length_drop,List.length_take];rfl)) ?_;(with_reducible refine (spec_l1In.calls (rd l0_2 x3_2) 0 2 true _ A14.out).mono ?_);rintro e w' ⟨rfl,⟨nd,rfl⟩⟩;refine ⟨_,rfl,?_⟩))
         go_roundg k2
         case measure => have:=HJ1.out;have:=HK2.out;omega
         case rel => exact ⟨(wrap64 (x3_2 + 1)),(by first | rfl | (simp;done) | (simp [*];done)),H',⟨by have:=HJ1.out;have:=HK2.out;omega⟩,⟨by (with_reducible repeat (first | refine dN ?_ _ | refine dD ?_ | refine dA ?_ _));exact BK184.out⟩,⟨by repeat (first | (with_reducible first | exact HB.out | apply bA | apply bN | apply bD | refine below_set ?_ GE184.out) | exact HB.out)⟩⟩
        ·replace c15:=Bool.eq_false_iff.mpr c15;subst c15;have H1 : (some false) = some r:=by rw [if_neg (show ¬ (false = true) by decide)] at H;exact H
         clear H;have H:=H1;clear H1;obtain rfl:=Option.some.inj H;have hcz17_0 : wr.cell? ⟨gb184,0,none⟩ = some (.int .i64 a0_0):=(blk_cell BK184.out 0).trans rfl;have hcz17_1 : wr.cell? ⟨gb184,1,none⟩ = some (.int .i64 a0_1):=(blk_cell BK184.out 1).trans rfl;have hcz17_2 : wr.cell? ⟨gb184,2,none⟩ = some (.slice A0_2 l0_2.length c0_2):=(blk_cell BK184.out 2).trans rfl;have hfz17_0:=blk_frozen BK184.out 0;have hfz17_1:=blk_frozen BK184.out 1;have hfz17_2:=blk_frozen BK184.out 2;have p187 : 0 ≤ (x3_2 : Int):=odt (by first | (with_reducible assumption) | assumption);have q187 : x3_2 < (l0_2.length : Int):=odt (by first | (with_reducible assumption) | assumption);obtain ⟨ad187,e187,hx187_0⟩:=Kd.at_int HR0_2.out x3_2 p187 q187
         cases e187
         replace hx187_0:=(ct HB.out hx187_0 :)
         replace p187:=eq_true p187;replace q187:=eq_true q187;go_wp2_with (first | ((with_reducible refine gate_callee (f:=104) rfl ?_);refine goesL_ (some 37) rfl rfl Try.func104 (by kernel_rfl) rfl #[.int .i64 (rd l0_2 x3_2),.int .i64 0,.int .i64 2] rfl (by (try simp only [List.map_toArray,List.map_cons,List.map_nil]);first | done | rfl | (simp only [List.length_drop,List.length_take];rfl)) ?_;(with_reducible refine (spec_l1In.calls (rd l0_2 x3_2) 0 2 false _ A14.out).mono ?_);rintro e w' ⟨rfl,⟨nd,rfl⟩⟩;refine ⟨_,rfl,?_⟩))
         go_ret
         exact ⟨by first | rfl | (simp [errW_none,errW_some] <;> rfl) | (simp [*,errW_none,errW_some] <;> rfl),by repeat (first | (with_reducible first | exact HB.out | apply bA | apply bN | apply bD | refine below_set ?_ GE184.out) | exact HB.out)⟩
       ·rw [if_neg c13] at H;exact absurd H (by simp)
      ·rw [if_neg c12] at H;have c12b0 : decide (x3_2 < (l0_2.length : Int)) = false:=decide_eq_false c12;clear c12;obtain rfl:=Option.some.inj H;have hcz18_0 : wr.cell? ⟨gb184,0,none⟩ = some (.int .i64 a0_0):=(blk_cell BK184.out 0).trans rfl;have hcz18_1 : wr.cell? ⟨gb184,1,none⟩ = some (.int .i64 a0_1):=(blk_cell BK184.out 1).trans rfl;have hcz18_2 : wr.cell? ⟨gb184,2,none⟩ = some (.slice A0_2 l0_2.length c0_2):=(blk_cell BK184.out 2).trans rfl;have hfz18_0:=blk_frozen BK184.out 0;have hfz18_1:=blk_frozen BK184.out 1;have hfz18_2:=blk_frozen BK184.out 2;go_wp2
       go_ret
       exact ⟨by first | rfl | (simp [errW_none,errW_some] <;> rfl) | (simp [*,errW_none,errW_some] <;> rfl),by repeat (first | (with_reducible first | exact HB.out | apply bA | apply bN | apply bD | refine below_set ?_ GE184.out) | exact HB.out)⟩

/-! ### spec_IsCell: function 137 -/
def spec_IsCell.f (k : Nat) (a0_0 : Int) (a0_1 : Int) (l0_2 : List Int) (a1 : Int) : Option (Bool) := (spec_IsLand.f k a0_0 a0_1 l0_2).bind fun t190 => (if t190 = true then ((spec_l1In.f a1 0 (wrap64 ((l0_2.length : Int) - 1))).bind fun t191 => (some t191)) else (some false))
theorem spec_IsCell.mono : ∀ a0 a1 a2 a3 k, LeO (spec_IsCell.f k a0 a1 a2 a3) (spec_IsCell.f (k + 1) a0 a1 a2 a3) := by
 intro a0 a1 a2 a3 k
 unfold spec_IsCell.f
 repeat' first
   | (with_reducible exact spec_IsLand.mono _ _ _ _)
   | (with_reducible exact LeO.refl _)
   | (with_reducible exact LeO.none _)
   | (with_reducible refine LeO.ite ?_ ?_)
   | (with_reducible refine LeO.bind ?_ (fun _ => ?_))
   | exact spec_IsLand.mono _ _ _ _
   | exact LeO.none _
   | refine LeO.ite ?_ ?_
   | refine LeO.bind ?_ (fun _ => ?_)
set_option maxHeartbeats 8000000 in
set_option maxRecDepth 100000 in
theorem spec_IsCell.calls (k : Nat) (a0_0 : Int) (a0_1 : Int) (A0_2 : Option Addr) (c0_2 : Nat) (l0_2 : List Int) (a1 : Int) (r : Bool) (w : World) (hr0_2 : Kd.C (Kd.int .i64) w A0_2 l0_2.length l0_2) (hc0_2 : l0_2.length ≤ c0_2) (h : spec_IsCell.f k a0_0 a0_1 l0_2 a1 = some r) :
  Calls Try.prog 137 #[.agg #[.int .i64 a0_0,.int .i64 a0_1,.slice A0_2 l0_2.length c0_2],.int .i64 a1] w fun e w' => e = .returned (.bool r) ∧ Below w.heap.size w w':=by
 have hu51:=Try.underlying51;have HR0_2:=am hr0_2;have HC0_2:=am hc0_2;clear hr0_2 hc0_2;have HB:=am (Below.refl w.heap.size w);have H : ((spec_IsLand.f k a0_0 a0_1 l0_2).bind fun t190 => (if t190 = true then ((spec_l1In.f a1 0 (wrap64 ((l0_2.length : Int) - 1))).bind fun t191 => (some t191)) else (some false))) = some r:=h;clear h;replace H:=bS.mp H;obtain ⟨t190,A30,H⟩:=H;replace H : (if t190 = true then ((spec_l1In.f a1 0 (wrap64 ((l0_2.length : Int) - 1))).bind fun t191 => (some t191)) else (some false)) = some r:=H;have A3:=am A30;clear A30
 by_cases c4 : t190 = true
 ·subst c4;have H1 : ((spec_l1In.f a1 0 (wrap64 ((l0_2.length : Int) - 1))).bind fun t191 => (some t191)) = some r:=by rw [if_pos rfl] at H;exact H
  clear H;have H:=H1;clear H1;replace H:=bS.mp H;obtain ⟨t191,A50,H⟩:=H;replace H : (some t191) = some r:=H;have A5:=am A50;clear A50;obtain rfl:=Option.some.inj H
  go_enter Try.func137,Try.ntmps137
  go_wp2_with (first | ((with_reducible refine gate_dst (N:=2) rfl ?_);(try (refine gate_guard (by rfl) ?_;dsimp only));refine box_event ?hg (N:=2) ?hd (cs:=#[.int .i64 a0_0,.int .i64 a0_1,.slice A0_2 l0_2.length c0_2]) (t:=51) ?hr ?_;(case hd => rfl);(case hg => rfl);(case hr => first | (go_simp;done) | (go_simp;rfl));intro gb189 hg w6 hbox hb;have n0_:=am (below_step (by repeat (first | (with_reducible first | exact HB.out | apply bA | apply bN | apply bD) | exact HB.out)) hb);have n1_:=am (hbox);have n2_:=am ((by rw [hg];exact (below_size (by repeat (first | (with_reducible first | exact HB.out | apply bA | apply bN | apply bD) | exact HB.out))) : w.heap.size ≤ gb189));have n3_:=am ((by rw [hg];exact (below_size (by repeat (first | (with_reducible first | exact HB.out | apply bA | apply bN | apply bD) | exact HB.out))) : w.heap.size ≤ gb189));clear HB;have HB:=n0_;have BK189:=n1_;have GW189:=n2_;have GE189:=n3_;clear n0_ n1_ n2_ n3_;clear hb hbox hg;have hcz7_0 : w6.cell? ⟨gb189,0,none⟩ = some (.int .i64 a0_0):=(blk_cell BK189.out 0).trans rfl;have hcz7_1 : w6.cell? ⟨gb189,1,none⟩ = some (.int .i64 a0_1):=(blk_cell BK189.out 1).trans rfl;have hcz7_2 : w6.cell? ⟨gb189,2,none⟩ = some (.slice A0_2 l0_2.length c0_2):=(blk_cell BK189.out 2).trans rfl;have hfz7_0:=blk_frozen BK189.out 0;have hfz7_1:=blk_frozen BK189.out 1;have hfz7_2:=blk_frozen BK189.out 2) | ((with_reducible refine gate_callee (f:=147) rfl ?_);refine goesL_ (some 6) rfl rfl Try.func147 (by kernel_rfl) rfl #[.agg #[.int .i64 a0_0,.int .i64 a0_1,.slice A0_2 l0_2.length c0_2]] rfl (by (try simp only [List.map_toArray,List.map_cons,List.map_nil]);first | done | rfl | (simp only [List.length_drop,List.length_take];rfl)) ?_;(with_reducible refine (spec_IsLand.calls k a0_0 a0_1 _ _ l0_2 true _ ?side1 ?side2 A3.out).mono ?_);(case side1 => repeat (first | exact (Kd.C_below HR0_2.out HB.out) | (with_reducible refine cA ?_ _) | (with_reducible refine cN ?_ _) | (with_reducible refine cD ?_)));(case side2 => exact HC0_2.out);rintro e w8 ⟨rfl,hb⟩;refine ⟨_,rfl,?_⟩;have n0_:=am (blk_below (g:=gb189) (o:=.cells #[.int .i64 a0_0,.int .i64 a0_1,.slice A0_2 l0_2.length c0_2] 51 (0,0)) (by (with_reducible repeat (first | refine dN ?_ _ | refine dD ?_ | refine dA ?_ _));exact BK189.out) hb);have n1_:=am (below_step (by repeat (first | (with_reducible first | exact HB.out | apply bA | apply bN | apply bD | refine below_set ?_ GE189.out) | exact HB.out)) hb);clear BK189;clear HB;have BK189:=n0_;have HB:=n1_;clear n0_ n1_;(try clear hb);(try clear hb2);(try clear hk);(try clear hi);have hcz9_0 : w8.cell? ⟨gb189,0,none⟩ = some (.int .i64 a0_0):=(blk_cell BK189.out 0).trans rfl;have hcz9_1 : w8.cell? ⟨gb189,1,none⟩ = some (.int .i64 a0_1):=(blk_cell BK189.out 1).trans rfl;have hcz9_2 : w8.cell? ⟨gb189,2,none⟩ = some (.slice A0_2 l0_2.length c0_2):=(blk_cell BK189.out 2).trans rfl;have hfz9_0:=blk_frozen BK189.out 0;have hfz9_1:=blk_frozen BK189.out 1;have hfz9_2:=blk_frozen BK189.out 2) | (go_at_call 104;(with_reducible refine (spec_l1In.calls a1 0 (wrap64 ((l0_2.length : Int) - 1)) t191 _ A5.out).mono ?_);rintro e w' ⟨rfl,⟨nd,rfl⟩⟩))
  go_ret
  exact ⟨by first | rfl | (simp [errW_none,errW_some] <;> rfl) | (simp [*,errW_none,errW_some] <;> rfl),by repeat (first | (with_reducible first | exact HB.out | apply bA | apply bN | apply bD | refine below_set ?_ GE189.out) | exact HB.out)⟩
 ·replace c4:=Bool.eq_false_iff.mpr c4;subst c4;have H1 : (some false) = some r:=by rw [if_neg (show ¬ (false = true) by decide)] at H;exact H
  clear H;have H:=H1;clear H1;obtain rfl:=Option.some.inj H
  go_enter Try.func137,Try.ntmps137
  go_wp2_with (first | ((with_reducible refine gate_dst (N:=2) rfl ?_);(try (refine gate_guard (by rfl) ?_;dsimp only));refine box_event ?hg (N:=2) ?hd (cs:=#[.int .i64 a0_0,.int .i64 a0_1,.slice A0_2 l0_2.length c0_2]) (t:=51) ?hr ?_;(case hd => rfl);(case hg => rfl);(case hr => first | (go_simp;done) | (go_simp;rfl));intro gb189 hg w10 hbox hb;have n0_:=am (below_step (by repeat (first | (with_reducible first | exact HB.out | apply bA | apply bN | apply bD) | exact HB.out)) hb);have n1_:=am (hbox);have n2_:=am ((by rw [hg];exact (below_size (by repeat (first | (with_reducible first | exact HB.out | apply bA | apply bN | apply bD) | exact HB.out))) : w.heap.size ≤ gb189));have n3_:=am ((by rw [hg];exact (below_size (by repeat (first | (with_reducible first | exact HB.out | apply bA | apply bN | apply bD) | exact HB.out))) : w.heap.size ≤ gb189));clear HB;have HB:=n0_;have BK189:=n1_;have GW189:=n2_;have GE189:=n3_;clear n0_ n1_ n2_ n3_;clear hb hbox hg;have hcz11_0 : w10.cell? ⟨gb189,0,none⟩ = some (.int .i64 a0_0):=(blk_cell BK189.out 0).trans rfl;have hcz11_1 : w10.cell? ⟨gb189,1,none⟩ = some (.int .i64 a0_1):=(blk_cell BK189.out 1).trans rfl;have hcz11_2 : w10.cell? ⟨gb189,2,none⟩ = some (.slice A0_2 l0_2.length c0_2):=(blk_cell BK189.out 2).trans rfl;have hfz11_0:=blk_frozen BK189.out 0;have hfz11_1:=blk_frozen BK189.out 1;have hfz11_2:=blk_frozen BK189.out 2) | ((with_reducible refine gate_callee (f:=147) rfl ?_);refine goesL_ (some 6) rfl rfl Try.func147 (by kernel_rfl) rfl #[.agg #[.int .i64 a0_0,.int .i64 a0_1,.slice A0_2 l0_2.length c0_2]] rfl (by (try simp only [List.map_toArray,List.map_cons,List.map_nil]);first | done | rfl | (simp only [List.length_drop,List.length_take];rfl)) ?_;(with_reducible refine (spec_IsLand.calls k a0_0 a0_1 _ _ l0_2 false _ ?side1 ?side2 A3.out).mono ?_);(case side1 => repeat (first | exact (Kd.C_below HR0_2.out HB.out) | (with_reducible refine cA ?_ _) | (with_reducible refine cN ?_ _) | (with_reducible refine cD ?_)));(case side2 => exact HC0_2.out);rintro e w12 ⟨rfl,hb⟩;refine ⟨_,rfl,?_⟩;have n0_:=am (blk_below (g:=gb189) (o:=.cells #[.int .i64 a0_0,.int .i64 a0_1,.slice A0_2 l0_2.length c0_2] 51 (0,0)) (by (with_reducible repeat (first | refine dN ?_ _ | refine dD ?_ | refine dA ?_ _));exact BK189.out) hb);have n1_:=am (below_step (by repeat (first | (with_reducible first | exact HB.out | apply bA | apply bN | apply bD | refine below_set ?_ GE189.out) | exact HB.out)) hb);clear BK189;clear HB;have BK189:=n0_;have HB:=n1_;clear n0_ n1_;(try clear hb);(try clear hb2);(try clear hk);(try clear hi)))
  go_ret
  exact ⟨by first | rfl | (simp [errW_none,errW_some] <;> rfl) | (simp [*,errW_none,errW_some] <;> rfl),by repeat (first | (with_reducible first | exact HB.out | apply bA | apply bN | apply bD | refine below_set ?_ GE189.out) | exact HB.out)⟩

/-! ### spec_IsOpen: function 105 -/
def spec_IsOpen.f (k : Nat) (a0_0 : Int) (a0_1 : Int) (l0_2 : List Int) (a1 : Int) : Option (Bool) := (spec_IsCell.f k a0_0 a0_1 l0_2 a1).bind fun t193 => (if t193 = true then (if 0 ≤ a1 then (if a1 < (l0_2.length : Int) then (some ((rd l0_2 a1) != 2)) else (none)) else (none)) else (some false))
theorem spec_IsOpen.mono : ∀ a0 a1 a2 a3 k, LeO (spec_IsOpen.f k a0 a1 a2 a3) (spec_IsOpen.f (k + 1) a0 a1 a2 a3) := by
 intro a0 a1 a2 a3 k
 unfold spec_IsOpen.f
 repeat' first
   | (with_reducible exact spec_IsCell.mono _ _ _ _ _)
   | (with_reducible exact LeO.refl _)
   | (with_reducible exact LeO.none _)
   | (with_reducible refine LeO.ite ?_ ?_)
   | (with_reducible refine LeO.bind ?_ (fun _ => ?_))
   | exact spec_IsCell.mono _ _ _ _ _
   | exact LeO.none _
   | refine LeO.ite ?_ ?_
   | refine LeO.bind ?_ (fun _ => ?_)
set_option maxHeartbeats 8000000 in
set_option maxRecDepth 100000 in
theorem spec_IsOpen.calls (k : Nat) (a0_0 : Int) (a0_1 : Int) (A0_2 : Option Addr) (c0_2 : Nat) (l0_2 : List Int) (a1 : Int) (r : Bool) (w : World) (hr0_2 : Kd.C (Kd.int .i64) w A0_2 l0_2.length l0_2) (hc0_2 : l0_2.length ≤ c0_2) (h : spec_IsOpen.f k a0_0 a0_1 l0_2 a1 = some r) :
  Calls Try.prog 105 #[.agg #[.int .i64 a0_0,.int .i64 a0_1,.slice A0_2 l0_2.length c0_2],.int .i64 a1] w fun e w' => e = .returned (.bool r) ∧ Below w.heap.size w w':=by
 have hu51:=Try.underlying51;have HR0_2:=am hr0_2;have HC0_2:=am hc0_2;clear hr0_2 hc0_2;have HB:=am (Below.refl w.heap.size w);have H : ((spec_IsCell.f k a0_0 a0_1 l0_2 a1).bind fun t193 => (if t193 = true then (if 0 ≤ a1 then (if a1 < (l0_2.length : Int) then (some ((rd l0_2 a1) != 2)) else (none)) else (none)) else (some false))) = some r:=h;clear h;replace H:=bS.mp H;obtain ⟨t193,A30,H⟩:=H;replace H : (if t193 = true then (if 0 ≤ a1 then (if a1 < (l0_2.length : Int) then (some ((rd l0_2 a1) != 2)) else (none)) else (none)) else (some false)) = some r:=H;have A3:=am A30;clear A30
 by_cases c4 : t193 = true
 ·subst c4;have H1 : (if 0 ≤ a1 then (if a1 < (l0_2.length : Int) then (some ((rd l0_2 a1) != 2)) else (none)) else (none)) = some r:=by rw [if_pos rfl] at H;exact H
  clear H;have H:=H1;clear H1
  by_cases c5 : 0 ≤ a1
  ·rw [if_pos c5] at H;have c5b0 : decide (0 ≤ a1) = true:=decide_eq_true c5;clear c5
   by_cases c6 : a1 < (l0_2.length : Int)
   ·rw [if_pos c6] at H;have c6b0 : decide (a1 < (l0_2.length : Int)) = true:=decide_eq_true c6;clear c6;obtain rfl:=Option.some.inj H
    go_enter Try.func105,Try.ntmps105
    go_wp2_with (first | ((with_reducible refine gate_dst (N:=2) rfl ?_);refine box_event ?hg (N:=2) ?hd (cs:=#[.int .i64 a0_0,.int .i64 a0_1,.slice A0_2 l0_2.length c0_2]) (t:=51) ?hr ?_;(case hd => rfl);(case hg => rfl);(case hr => first | (go_simp;done) | (go_simp;rfl));intro gb192 hg w7 hbox hb;have n0_:=am (below_step (by repeat (first | (with_reducible first | exact HB.out | apply bA | apply bN | apply bD) | exact HB.out)) hb);have n1_:=am (hbox);have n2_:=am ((by rw [hg];exact (below_size (by repeat (first | (with_reducible first | exact HB.out | apply bA | apply bN | apply bD) | exact HB.out))) : w.heap.size ≤ gb192));have n3_:=am ((by rw [hg];exact (below_size (by repeat (first | (with_reducible first | exact HB.out | apply bA | apply bN | apply bD) | exact HB.out))) : w.heap.size ≤ gb192));clear HB;have HB:=n0_;have BK192:=n1_;have GW192:=n2_;have GE192:=n3_;clear n0_ n1_ n2_ n3_;clear hb hbox hg;have hcz8_0 : w7.cell? ⟨gb192,0,none⟩ = some (.int .i64 a0_0):=(blk_cell BK192.out 0).trans rfl;have hcz8_1 : w7.cell? ⟨gb192,1,none⟩ = some (.int .i64 a0_1):=(blk_cell BK192.out 1).trans rfl;have hcz8_2 : w7.cell? ⟨gb192,2,none⟩ = some (.slice A0_2 l0_2.length c0_2):=(blk_cell BK192.out 2).trans rfl;have hfz8_0:=blk_frozen BK192.out 0;have hfz8_1:=blk_frozen BK192.out 1;have hfz8_2:=blk_frozen BK192.out 2) | ((with_reducible refine gate_callee (f:=137) rfl ?_);refine goesL_ (some 7) rfl rfl Try.func137 (by kernel_rfl) rfl #[.agg #[.int .i64 a0_0,.int .i64 a0_1,.slice A0_2 l0_2.length c0_2],.int .i64 a1] rfl (by (try simp only [List.map_toArray,List.map_cons,List.map_nil]);first | done | rfl | (simp only [List.length_drop,List.length_take];rfl)) ?_;(with_reducible refine (spec_IsCell.calls k a0_0 a0_1 _ _ l0_2 a1 true _ ?side1 ?side2 A3.out).mono ?_);(case side1 => repeat (first | exact (Kd.C_below HR0_2.out HB.out) | (with_reducible refine cA ?_ _) | (with_reducible refine cN ?_ _) | (with_reducible refine cD ?_)));(case side2 => exact HC0_2.out);rintro e w9 ⟨rfl,hb⟩;refine ⟨_,rfl,?_⟩;have n0_:=am (blk_below (g:=gb192) (o:=.cells #[.int .i64 a0_0,.int .i64 a0_1,.slice A0_2 l0_2.length c0_2] 51 (0,0)) (by (with_reducible repeat (first | refine dN ?_ _ | refine dD ?_ | refine dA ?_ _));exact BK192.out) hb);have n1_:=am (below_step (by repeat (first | (with_reducible first | exact HB.out | apply bA | apply bN | apply bD | refine below_set ?_ GE192.out) | exact HB.out)) hb);clear BK192;clear HB;have BK192:=n0_;have HB:=n1_;clear n0_ n1_;(try clear hb);(try clear hb2);(try clear hk);(try clear hi);have hcz10_0 : w9.cell? ⟨gb192,0,none⟩ = some (.int .i64 a0_0):=(blk_cell BK192.out 0).trans rfl;have hcz10_1 : w9.cell? ⟨gb192,1,none⟩ = some (.int .i64 a0_1):=(blk_cell BK192.out 1).trans rfl;have hcz10_2 : w9.cell? ⟨gb192,2,none⟩ = some (.slice A0_2 l0_2.length c0_2):=(blk_cell BK192.out 2).trans rfl;have hfz10_0:=blk_frozen BK192.out 0;have hfz10_1:=blk_frozen BK192.out 1;have hfz10_2:=blk_frozen BK192.out 2;have p194 : 0 ≤ (a1 : Int):=odt (by first | (with_reducible assumption) | assumption);have q194 : a1 < (l0_2.length : Int):=odt (by first | (with_reducible assumption) | assumption);obtain ⟨ad194,e194,hx194_0⟩:=Kd.at_int HR0_2.out a1 p194 q194;cases e194;replace hx194_0:=(ct HB.out hx194_0 :);replace p194:=eq_true p194;replace q194:=eq_true q194))
    go_ret
    exact ⟨by first | rfl | (simp [errW_none,errW_some] <;> rfl) | (simp [*,errW_none,errW_some] <;> rfl),by repeat (first | (with_reducible first | exact HB.out | apply bA | apply bN | apply bD | refine below_set ?_ GE192.out) | exact HB.out)⟩
   ·rw [if_neg c6] at H;exact absurd H (by simp)
  ·rw [if_neg c5] at H;exact absurd H (by simp)
 ·replace c4:=Bool.eq_false_iff.mpr c4;subst c4;have H1 : (some false) = some r:=by rw [if_neg (show ¬ (false = true) by decide)] at H;exact H
  clear H;have H:=H1;clear H1;obtain rfl:=Option.some.inj H
  go_enter Try.func105,Try.ntmps105
  go_wp2_with (first | ((with_reducible refine gate_dst (N:=2) rfl ?_);refine box_event ?hg (N:=2) ?hd (cs:=#[.int .i64 a0_0,.int .i64 a0_1,.slice A0_2 l0_2.length c0_2]) (t:=51) ?hr ?_;(case hd => rfl);(case hg => rfl);(case hr => first | (go_simp;done) | (go_simp;rfl));intro gb192 hg w11 hbox hb;have n0_:=am (below_step (by repeat (first | (with_reducible first | exact HB.out | apply bA | apply bN | apply bD) | exact HB.out)) hb);have n1_:=am (hbox);have n2_:=am ((by rw [hg];exact (below_size (by repeat (first | (with_reducible first | exact HB.out | apply bA | apply bN | apply bD) | exact HB.out))) : w.heap.size ≤ gb192));have n3_:=am ((by rw [hg];exact (below_size (by repeat (first | (with_reducible first | exact HB.out | apply bA | apply bN | apply bD) | exact HB.out))) : w.heap.size ≤ gb192));clear HB;have HB:=n0_;have BK192:=n1_;have GW192:=n2_;have GE192:=n3_;clear n0_ n1_ n2_ n3_;clear hb hbox hg;have hcz12_0 : w11.cell? ⟨gb192,0,none⟩ = some (.int .i64 a0_0):=(blk_cell BK192.out 0).trans rfl;have hcz12_1 : w11.cell? ⟨gb192,1,none⟩ = some (.int .i64 a0_1):=(blk_cell BK192.out 1).trans rfl;have hcz12_2 : w11.cell? ⟨gb192,2,none⟩ = some (.slice A0_2 l0_2.length c0_2):=(blk_cell BK192.out 2).trans rfl;have hfz12_0:=blk_frozen BK192.out 0;have hfz12_1:=blk_frozen BK192.out 1;have hfz12_2:=blk_frozen BK192.out 2) | ((with_reducible refine gate_callee (f:=137) rfl ?_);refine goesL_ (some 7) rfl rfl Try.func137 (by kernel_rfl) rfl #[.agg #[.int .i64 a0_0,.int .i64 a0_1,.slice A0_2 l0_2.length c0_2],.int .i64 a1] rfl (by (try simp only [List.map_toArray,List.map_cons,List.map_nil]);first | done | rfl | (simp only [List.length_drop,List.length_take];rfl)) ?_;(with_reducible refine (spec_IsCell.calls k a0_0 a0_1 _ _ l0_2 a1 false _ ?side1 ?side2 A3.out).mono ?_);(case side1 => repeat (first | exact (Kd.C_below HR0_2.out HB.out) | (with_reducible refine cA ?_ _) | (with_reducible refine cN ?_ _) | (with_reducible refine cD ?_)));(case side2 => exact HC0_2.out);rintro e w13 ⟨rfl,hb⟩;refine ⟨_,rfl,?_⟩;have n0_:=am (blk_below (g:=gb192) (o:=.cells #[.int .i64 a0_0,.int .i64 a0_1,.slice A0_2 l0_2.length c0_2] 51 (0,0)) (by (with_reducible repeat (first | refine dN ?_ _ | refine dD ?_ | refine dA ?_ _));exact BK192.out) hb);have n1_:=am (below_step (by repeat (first | (with_reducible first | exact HB.out | apply bA | apply bN | apply bD | refine below_set ?_ GE192.out) | exact HB.out)) hb);clear BK192;clear HB;have BK192:=n0_;have HB:=n1_;clear n0_ n1_;(try clear hb);(try clear hb2);(try clear hk);(try clear hi)))
  go_ret
  exact ⟨by first | rfl | (simp [errW_none,errW_some] <;> rfl) | (simp [*,errW_none,errW_some] <;> rfl),by repeat (first | (with_reducible first | exact HB.out | apply bA | apply bN | apply bD | refine below_set ?_ GE192.out) | exact HB.out)⟩

end Go.Proofs.Ytcbkknpmeknppaa.PFnExactIsPlan
