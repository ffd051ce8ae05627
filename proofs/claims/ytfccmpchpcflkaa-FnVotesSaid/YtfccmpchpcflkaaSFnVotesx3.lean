/- Contracts of functions that the law FnVotes reaches, for its row: lines that the kit's printer wrote for this claim, set shorter by a program of this session (own.py), and what fell in Lean proved anew. Lean checks them. -/
import Derived.Test.YtfccmpchpcflkaaSFnVotesx0
import Derived.Test.YtfccmpchpcflkaaSFnVotesx1
import Derived.Test.YtfccmpchpcflkaaSFnVotesx2
namespace Go.Proofs.Ytfccmpchpcflkaa.PFnVotes
open Go.RowKit Go.Proofs.YtfccmpchpcflkaaW.PrintWords Go.Proofs.YtfccmpchpcflkaaW.PrintLast Go.Proofs.YtfccmpchpcflkaaW.PrintMore
attribute [local go_sem] max2_int min2_int max_two min_two max_three min_three max_four min_four   -- for this text's walks alone
set_option linter.unusedVariables false
set_option linter.unusedSimpArgs false

/-! ### impl_memberOf: function 69 -/
def impl_memberOf.l0 : Nat → Int → List (S68) → Int → Int → Option (Int)
 | 0,_,_,_,_ => none
 | k + 1,x1,x7,x8,x9 => if x9 < x8 then (if 0 ≤ x9 then (if x9 < (x7.length : Int) then (if ((rd_T68 x7 x9).f0) = x1 then (some x9) else (impl_memberOf.l0 k x1 x7 x8 (wrap64 (x9 + 1)))) else (none)) else (none)) else (some (-1))
def impl_memberOf.f (k : Nat) (l0 : List (S68)) (a1 : Int) : Option (Int) := impl_memberOf.l0 k a1 l0 (l0.length : Int) 0
theorem impl_memberOf.mono_l : ∀ k, (∀ y0 y1 y2 y3, LeO (impl_memberOf.l0 k y0 y1 y2 y3) (impl_memberOf.l0 (k + 1) y0 y1 y2 y3))
 | 0 => fun _ _ _ _ r h => by simp [impl_memberOf.l0] at h
 | k + 1 => by
  have ih0:=impl_memberOf.mono_l k
  ·intro y0 y1 y2 y3
   unfold impl_memberOf.l0
   repeat' first
   | (with_reducible exact ih0 _ _ _ _)
   | (with_reducible exact LeO.refl _)
   | (with_reducible exact LeO.none _)
   | (with_reducible refine LeO.ite ?_ ?_)
   | (with_reducible refine LeO.bind ?_ (fun _ => ?_))
   | exact ih0 _ _ _ _
   | exact LeO.none _
   | refine LeO.ite ?_ ?_
   | refine LeO.bind ?_ (fun _ => ?_)
theorem impl_memberOf.mono : ∀ a0 a1 k, LeO (impl_memberOf.f k a0 a1) (impl_memberOf.f (k + 1) a0 a1) := by
 intro a0 a1 k
 have ih0:=impl_memberOf.mono_l k
 unfold impl_memberOf.f
 repeat' first
   | (with_reducible exact ih0 _ _ _ _)
   | (with_reducible exact LeO.refl _)
   | (with_reducible exact LeO.none _)
   | (with_reducible refine LeO.ite ?_ ?_)
   | (with_reducible refine LeO.bind ?_ (fun _ => ?_))
   | exact ih0 _ _ _ _
   | exact LeO.none _
   | refine LeO.ite ?_ ?_
   | refine LeO.bind ?_ (fun _ => ?_)
set_option maxHeartbeats 8000000 in
set_option maxRecDepth 100000 in
theorem impl_memberOf.calls (k : Nat) (A0 : Option Addr) (c0 : Nat) (l0 : List (S68)) (a1 : Int) (r : Int) (w : World) (hr0 : Kd.C k68 w A0 l0.length l0) (hc0 : l0.length ≤ c0) (h : impl_memberOf.f k l0 a1 = some r) :
  Calls Try.prog 69 #[.slice A0 l0.length c0,.int .i64 a1] w fun e w' => e = .returned (.int .i64 r) ∧ Below w.heap.size w w':=by
 have hu68:=Try.underlying68;have HR0:=am hr0;have HC0:=am hc0;clear hr0 hc0;have HB:=am (Below.refl w.heap.size w);have H : (impl_memberOf.l0 k a1 l0 (l0.length : Int) 0) = some r:=h;clear h;have H':=am H;clear H
 go_enter Try.func69,Try.ntmps69
 go_wp2
 go_loopg [9] k (fun kq v9 w' => ∃ (x9_1 : Int),v9 = .int .i64 x9_1 ∧ Aside0 (impl_memberOf.l0 kq a1 l0 (l0.length : Int) x9_1 = some r) ∧ Aside0 (kq ≤ k) ∧ Aside0 (Below w.heap.size w w'))
 case atStart => exact ⟨(0),(by first | rfl | (simp;done) | (simp [*];done)),H',⟨Nat.le_refl _⟩,⟨by repeat (first | (with_reducible first | exact HB.out | apply bA | apply bN | apply bD) | exact HB.out)⟩⟩
 case round =>
  clear H'
  try clear p2
  obtain ⟨x9_1,rfl,HA,HK1,HB⟩:=hrel
  cases gk with
  | zero => exact absurd HA.out (by simp [impl_memberOf.l0])
  | succ k1 =>
   have H:=HA.out;clear HA;simp only [impl_memberOf.l0] at H
   by_cases c3 : x9_1 < (l0.length : Int)
   ·rw [if_pos c3] at H;have c3b0 : decide (x9_1 < (l0.length : Int)) = true:=decide_eq_true c3;clear c3
    by_cases c4 : 0 ≤ x9_1
    ·rw [if_pos c4] at H;have c4b0 : decide (0 ≤ x9_1) = true:=decide_eq_true c4;clear c4
     by_cases c5 : x9_1 < (l0.length : Int)
     ·rw [if_pos c5] at H;have c5b0 : decide (x9_1 < (l0.length : Int)) = true:=decide_eq_true c5;clear c5
      by_cases c6 : ((rd_T68 l0 x9_1).f0) = a1
      ·rw [if_pos c6] at H;have c6b0 : (((rd_T68 l0 x9_1).f0) == a1) = true:=beq_iff_eq.mpr c6;have c6b1 : (((rd_T68 l0 x9_1).f0) != a1) = false:=bne_eq_false_iff_eq.mpr c6;clear c6;obtain rfl:=Option.some.inj H;have p110 : 0 ≤ (x9_1 : Int):=odt (by first | (with_reducible assumption) | assumption);have q110 : x9_1 < (l0.length : Int):=odt (by first | (with_reducible assumption) | assumption);obtain ⟨ad110,e110,hx110_0,hx110_1,hx110_2,hx110_3⟩:=at_T68 HR0.out x9_1 p110 q110
       cases e110
       replace hx110_0:=(ct HB.out hx110_0 :)
       replace hx110_1:=(ct HB.out hx110_1 :)
       replace hx110_2:=(ct HB.out hx110_2 :)
       replace hx110_3:=(ct HB.out hx110_3 :)
       replace p110:=eq_true p110;replace q110:=eq_true q110;go_wp2_with (first | ((with_reducible refine gate_dst (N:=6) rfl ?_);refine box_event ?hg (N:=6) ?hd (cs:=#[.int .i64 0,.int .i64 0,.int .i64 0,.bool false]) (t:=68) ?hr ?_;(case hd => rfl);(case hg => rfl);(case hr => first | (go_simp;done) | (go_simp;rfl));intro gb111 hg w7 hbox hb;have n0_:=am (below_step (by repeat (first | (with_reducible first | exact HB.out | apply bA | apply bN | apply bD) | exact HB.out)) hb);have n1_:=am (hbox);have n2_:=am ((by rw [hg];exact (below_size (by repeat (first | (with_reducible first | exact HB.out | apply bA | apply bN | apply bD) | exact HB.out))) : w.heap.size ≤ gb111));have n3_:=am ((by rw [hg];exact (below_size (by repeat (first | (with_reducible first | exact HB.out | apply bA | apply bN | apply bD) | exact HB.out))) : w.heap.size ≤ gb111));clear HB;have HB:=n0_;have BK111:=n1_;have GW111:=n2_;have GE111:=n3_;clear n0_ n1_ n2_ n3_;clear hb hbox hg;have hcz8_0 : w7.cell? ⟨gb111,0,none⟩ = some (.int .i64 0):=(blk_cell BK111.out 0).trans rfl;have hcz8_1 : w7.cell? ⟨gb111,1,none⟩ = some (.int .i64 0):=(blk_cell BK111.out 1).trans rfl;have hcz8_2 : w7.cell? ⟨gb111,2,none⟩ = some (.int .i64 0):=(blk_cell BK111.out 2).trans rfl;have hcz8_3 : w7.cell? ⟨gb111,3,none⟩ = some (.bool false):=(blk_cell BK111.out 3).trans rfl;have hfz8_0:=blk_frozen BK111.out 0;have hfz8_1:=blk_frozen BK111.out 1;have hfz8_2:=blk_frozen BK111.out 2;have hfz8_3:=blk_frozen BK111.out 3))
       go_ret
       exact ⟨by first | rfl | (simp [errW_none,errW_some] <;> rfl) | (simp [*,errW_none,errW_some] <;> rfl),by repeat (first | (with_reducible first | exact HB.out | apply bA | apply bN | apply bD | refine below_set ?_ GE111.out) | exact HB.out)⟩
      ·rw [if_neg c6] at H;have c6b0 : (((rd_T68 l0 x9_1).f0) == a1) = false:=beq_eq_false_iff_ne.mpr c6;have c6b1 : (((rd_T68 l0 x9_1).f0) != a1) = true:=bne_iff_ne.mpr c6;have H':=am H;clear H;have p110 : 0 ≤ (x9_1 : Int):=odt (by first | (with_reducible assumption) | assumption);have q110 : x9_1 < (l0.length : Int):=odt (by first | (with_reducible assumption) | assumption);obtain ⟨ad110,e110,hx110_0,hx110_1,hx110_2,hx110_3⟩:=at_T68 HR0.out x9_1 p110 q110
       cases e110
       replace hx110_0:=(ct HB.out hx110_0 :)
       replace hx110_1:=(ct HB.out hx110_1 :)
       replace hx110_2:=(ct HB.out hx110_2 :)
       replace hx110_3:=(ct HB.out hx110_3 :)
       replace p110:=eq_true p110;replace q110:=eq_true q110;go_wp2_with (first | ((with_reducible refine gate_dst (N:=6) rfl ?_);refine box_event ?hg (N:=6) ?hd (cs:=#[.int .i64 0,.int .i64 0,.int .i64 0,.bool false]) (t:=68) ?hr ?_;(case hd => rfl);(case hg => rfl);(case hr => first | (go_simp;done) | (go_simp;rfl));intro gb111 hg w9 hbox hb;have n0_:=am (below_step (by repeat (first | (with_reducible first | exact HB.out | apply bA | apply bN | apply bD) | exact HB.out)) hb);have n1_:=am (hbox);have n2_:=am ((by rw [hg];exact (below_size (by repeat (first | (with_reducible first | exact HB.out | apply bA | apply bN | apply bD) | exact HB.out))) : w.heap.size ≤ gb111));have n3_:=am ((by rw [hg];exact (below_size (by repeat (first | (with_reducible first | exact HB.out | apply bA | apply bN | apply bD) | exact HB.out))) : w.heap.size ≤ gb111));clear HB;have HB:=n0_;have BK111:=n1_;have GW111:=n2_;have GE111:=n3_;clear n0_ n1_ n2_ n3_;clear hb hbox hg;have hcz10_0 : w9.cell? ⟨gb111,0,none⟩ = some (.int .i64 0):=(blk_cell BK111.out 0).trans rfl;have hcz10_1 : w9.cell? ⟨gb111,1,none⟩ = some (.int .i64 0):=(blk_cell BK111.out 1).trans rfl;have hcz10_2 : w9.cell? ⟨gb111,2,none⟩ = some (.int .i64 0):=(blk_cell BK111.out 2).trans rfl;have hcz10_3 : w9.cell? ⟨gb111,3,none⟩ = some (.bool false):=(blk_cell BK111.out 3).trans rfl;have hfz10_0:=blk_frozen BK111.out 0;have hfz10_1:=blk_frozen BK111.out 1;have hfz10_2:=blk_frozen BK111.out 2;have hfz10_3:=blk_frozen BK111.out 3))
       go_roundg k1
       case measure => have:=HK1.out;omega
       case rel => exact ⟨(wrap64 (x9_1 + 1)),(by first | rfl | (simp;done) | (simp [*];done)),H',⟨by have:=HK1.out;omega⟩,⟨by repeat (first | (with_reducible first | exact HB.out | apply bA | apply bN | apply bD | refine below_set ?_ GE111.out) | exact HB.out)⟩⟩
     ·rw [if_neg c5] at H;exact absurd H (by simp)
    ·rw [if_neg c4] at H;exact absurd H (by simp)
   ·rw [if_neg c3] at H;have c3b0 : decide (x9_1 < (l0.length : Int)) = false:=decide_eq_false c3;clear c3;obtain rfl:=Option.some.inj H;go_wp2
    go_ret
    exact ⟨by first | rfl | (simp [errW_none,errW_some] <;> rfl) | (simp [*,errW_none,errW_some] <;> rfl),by repeat (first | (with_reducible first | exact HB.out | apply bA | apply bN | apply bD) | exact HB.out)⟩

/-! ### impl_placeOf: function 76 -/
def impl_placeOf.l0 : Nat → Int → List Int → Int → Int → Option (Int)
 | 0,_,_,_,_ => none
 | k + 1,x1,x7,x8,x9 => if x9 < x8 then (if 0 ≤ x9 then (if x9 < (x7.length : Int) then (if (rd x7 x9) = x1 then (some x9) else (impl_placeOf.l0 k x1 x7 x8 (wrap64 (x9 + 1)))) else (none)) else (none)) else (some (-1))
def impl_placeOf.f (k : Nat) (l0 : List Int) (a1 : Int) : Option (Int) := impl_placeOf.l0 k a1 l0 (l0.length : Int) 0
theorem impl_placeOf.mono_l : ∀ k, (∀ y0 y1 y2 y3, LeO (impl_placeOf.l0 k y0 y1 y2 y3) (impl_placeOf.l0 (k + 1) y0 y1 y2 y3))
 | 0 => fun _ _ _ _ r h => by simp [impl_placeOf.l0] at h
 | k + 1 => by
  have ih0:=impl_placeOf.mono_l k
  ·intro y0 y1 y2 y3
   unfold impl_placeOf.l0
   repeat' first
   | (with_reducible exact ih0 _ _ _ _)
   | (with_reducible exact LeO.refl _)
   | (with_reducible exact LeO.none _)
   | (with_reducible refine LeO.ite ?_ ?_)
   | (with_reducible refine LeO.bind ?_ (fun _ => ?_))
   | exact ih0 _ _ _ _
   | exact LeO.none _
   | refine LeO.ite ?_ ?_
   | refine LeO.bind ?_ (fun _ => ?_)
theorem impl_placeOf.mono : ∀ a0 a1 k, LeO (impl_placeOf.f k a0 a1) (impl_placeOf.f (k + 1) a0 a1) := by
 intro a0 a1 k
 have ih0:=impl_placeOf.mono_l k
 unfold impl_placeOf.f
 repeat' first
   | (with_reducible exact ih0 _ _ _ _)
   | (with_reducible exact LeO.refl _)
   | (with_reducible exact LeO.none _)
   | (with_reducible refine LeO.ite ?_ ?_)
   | (with_reducible refine LeO.bind ?_ (fun _ => ?_))
   | exact ih0 _ _ _ _
   | exact LeO.none _
   | refine LeO.ite ?_ ?_
   | refine LeO.bind ?_ (fun _ => ?_)
set_option maxHeartbeats 8000000 in
set_option maxRecDepth 100000 in
theorem impl_placeOf.calls (k : Nat) (A0 : Option Addr) (c0 : Nat) (l0 : List Int) (a1 : Int) (r : Int) (w : World) (hr0 : Kd.C (Kd.int .i64) w A0 l0.length l0) (hc0 : l0.length ≤ c0) (h : impl_placeOf.f k l0 a1 = some r) :
  Calls Try.prog 76 #[.slice A0 l0.length c0,.int .i64 a1] w fun e w' => e = .returned (.int .i64 r) ∧ Drawn0 w w':=by
 have HR0:=am hr0;have HC0:=am hc0;clear hr0 hc0;have H : (impl_placeOf.l0 k a1 l0 (l0.length : Int) 0) = some r:=h;clear h;have H':=am H;clear H
 go_enter Try.func76,Try.ntmps76
 go_wp2
 go_loopg [9] k (fun kq v9 w' => ∃ (x9_1 : Int),v9 = .int .i64 x9_1 ∧ Aside0 (impl_placeOf.l0 kq a1 l0 (l0.length : Int) x9_1 = some r) ∧ Aside0 (kq ≤ k) ∧ Drawn0 w w')
 case atStart => exact ⟨(0),(by first | rfl | (simp;done) | (simp [*];done)),H',⟨Nat.le_refl _⟩,by repeat (first | exact Drawn0.refl _ | apply Drawn0.step)⟩
 case round =>
  clear H'
  try clear p2
  obtain ⟨x9_1,rfl,HA,HK1,⟨m1,rfl⟩⟩:=hrel
  cases gk with
  | zero => exact absurd HA.out (by simp [impl_placeOf.l0])
  | succ k1 =>
   have H:=HA.out;clear HA;simp only [impl_placeOf.l0] at H
   by_cases c3 : x9_1 < (l0.length : Int)
   ·rw [if_pos c3] at H;have c3b0 : decide (x9_1 < (l0.length : Int)) = true:=decide_eq_true c3;clear c3
    by_cases c4 : 0 ≤ x9_1
    ·rw [if_pos c4] at H;have c4b0 : decide (0 ≤ x9_1) = true:=decide_eq_true c4;clear c4
     by_cases c5 : x9_1 < (l0.length : Int)
     ·rw [if_pos c5] at H;have c5b0 : decide (x9_1 < (l0.length : Int)) = true:=decide_eq_true c5;clear c5
      by_cases c6 : (rd l0 x9_1) = a1
      ·rw [if_pos c6] at H;have c6b0 : ((rd l0 x9_1) == a1) = true:=beq_iff_eq.mpr c6;have c6b1 : ((rd l0 x9_1) != a1) = false:=bne_eq_false_iff_eq.mpr c6;clear c6;obtain rfl:=Option.some.inj H;have p112 : 0 ≤ (x9_1 : Int):=odt (by first | (with_reducible assumption) | assumption);have q112 : x9_1 < (l0.length : Int):=odt (by first | (with_reducible assumption) | assumption);obtain ⟨ad112,e112,hx112_0⟩:=Kd.at_int HR0.out x9_1 p112 q112
       cases e112
       replace p112:=eq_true p112;replace q112:=eq_true q112;go_wp2
       go_ret
       exact ⟨by first | rfl | (simp;done) | (simp [*];done),by repeat (first | exact Drawn0.refl _ | apply Drawn0.step)⟩
      ·rw [if_neg c6] at H;have c6b0 : ((rd l0 x9_1) == a1) = false:=beq_eq_false_iff_ne.mpr c6;have c6b1 : ((rd l0 x9_1) != a1) = true:=bne_iff_ne.mpr c6;have H':=am H;clear H;have p112 : 0 ≤ (x9_1 : Int):=odt (by first | (with_reducible assumption) | assumption);have q112 : x9_1 < (l0.length : Int):=odt (by first | (with_reducible assumption) | assumption);obtain ⟨ad112,e112,hx112_0⟩:=Kd.at_int HR0.out x9_1 p112 q112
       cases e112
       replace p112:=eq_true p112;replace q112:=eq_true q112;go_wp2
       go_roundg k1
       case measure => have:=HK1.out;omega
       case rel => exact ⟨(wrap64 (x9_1 + 1)),(by first | rfl | (simp;done) | (simp [*];done)),H',⟨by have:=HK1.out;omega⟩,by repeat (first | exact Drawn0.refl _ | apply Drawn0.step)⟩
     ·rw [if_neg c5] at H;exact absurd H (by simp)
    ·rw [if_neg c4] at H;exact absurd H (by simp)
   ·rw [if_neg c3] at H;have c3b0 : decide (x9_1 < (l0.length : Int)) = false:=decide_eq_false c3;clear c3;obtain rfl:=Option.some.inj H;go_wp2
    go_ret
    exact ⟨by first | rfl | (simp;done) | (simp [*];done),by repeat (first | exact Drawn0.refl _ | apply Drawn0.step)⟩

/-! ### impl_has: function 70 -/
def impl_has.f (k : Nat) (l0 : List Int) (a1 : Int) : Option (Bool) := (impl_placeOf.f k l0 a1).bind fun t113 => (some (decide (t113 ≥ 0)))
theorem impl_has.mono : ∀ a0 a1 k, LeO (impl_has.f k a0 a1) (impl_has.f (k + 1) a0 a1) := by
 intro a0 a1 k
 unfold impl_has.f
 repeat' first
   | (with_reducible exact impl_placeOf.mono _ _ _)
   | (with_reducible exact LeO.refl _)
   | (with_reducible exact LeO.none _)
   | (with_reducible refine LeO.ite ?_ ?_)
   | (with_reducible refine LeO.bind ?_ (fun _ => ?_))
   | exact impl_placeOf.mono _ _ _
   | exact LeO.none _
   | refine LeO.ite ?_ ?_
   | refine LeO.bind ?_ (fun _ => ?_)
set_option maxHeartbeats 8000000 in
set_option maxRecDepth 100000 in
theorem impl_has.calls (k : Nat) (A0 : Option Addr) (c0 : Nat) (l0 : List Int) (a1 : Int) (r : Bool) (w : World) (hr0 : Kd.C (Kd.int .i64) w A0 l0.length l0) (hc0 : l0.length ≤ c0) (h : impl_has.f k l0 a1 = some r) :
  Calls Try.prog 70 #[.slice A0 l0.length c0,.int .i64 a1] w fun e w' => e = .returned (.bool r) ∧ Drawn0 w w':=by
 have HR0:=am hr0;have HC0:=am hc0;clear hr0 hc0;have H : ((impl_placeOf.f k l0 a1).bind fun t113 => (some (decide (t113 ≥ 0)))) = some r:=h;clear h;replace H:=bS.mp H;obtain ⟨t113,A30,H⟩:=H;replace H : (some (decide (t113 ≥ 0))) = some r:=H;have A3:=am A30;clear A30;obtain rfl:=Option.some.inj H
 go_enter Try.func70,Try.ntmps70
 go_wp2_with (first | ((with_reducible refine gate_callee (f:=76) rfl ?_);refine goesL_ (some 7) rfl rfl Try.func76 (by kernel_rfl) rfl #[.slice A0 l0.length c0,.int .i64 a1] rfl (by (try simp only [List.map_toArray,List.map_cons,List.map_nil]);first | done | rfl | (simp only [List.length_drop,List.length_take];rfl)) ?_;(with_reducible refine (impl_placeOf.calls k _ _ l0 a1 t113 _ ?side1 ?side2 A3.out).mono ?_);(case side1 => repeat (first | exact HR0.out | (with_reducible refine cA ?_ _) | (with_reducible refine cN ?_ _) | (with_reducible refine cD ?_)));(case side2 => exact HC0.out);rintro e w' ⟨rfl,⟨nd,rfl⟩⟩;refine ⟨_,rfl,?_⟩))
 go_ret
 exact ⟨by first | rfl | (simp;done) | (simp [*];done),by repeat (first | exact Drawn0.refl _ | apply Drawn0.step)⟩

/-! ### impl_AreVotes: function 38 -/
def impl_AreVotes.l0 : Nat → List (S68) → List Int → List (S59) → Int → Int → Option (Bool)
 | 0,_,_,_,_,_ => none
 | k + 1,x0,x5,x9,x10,x11 => if x11 < x10 then (if 0 ≤ x11 then (if x11 < (x9.length : Int) then ((impl_memberOf.f k x0 ((rd_T59 x9 x11).f0)).bind fun t120 => (if t120 < 0 then (some false) else ((impl_has.f k x5 ((rd_T59 x9 x11).f0)).bind fun t121 => (if t121 = true then (some false) else ((impl_InRange.f ((rd_T59 x9 x11).f1) 0 9).bind fun t122 => (if t122 = true then (if x5.length < 17592186044416 then (impl_AreVotes.l0 k x0 (x5 ++ [(rd_T59 x9 x11).f0]) x9 x10 (wrap64 (x11 + 1))) else (none)) else (some false))))))) else (none)) else (none)) else ((impl_AreCrew.f k x0).bind fun t117 => (some t117))
def impl_AreVotes.f (k : Nat) (l0 : List (S68)) (l1 : List (S59)) : Option (Bool) := impl_AreVotes.l0 k l0 (([] : List Int)) l1 (l1.length : Int) 0
theorem impl_AreVotes.mono_l : ∀ k, (∀ y0 y1 y2 y3 y4, LeO (impl_AreVotes.l0 k y0 y1 y2 y3 y4) (impl_AreVotes.l0 (k + 1) y0 y1 y2 y3 y4))
 | 0 => fun _ _ _ _ _ r h => by simp [impl_AreVotes.l0] at h
 | k + 1 => by
  have ih0:=impl_AreVotes.mono_l k
  ·intro y0 y1 y2 y3 y4
   unfold impl_AreVotes.l0
   repeat' first
   | (with_reducible exact ih0 _ _ _ _ _)
   | (with_reducible exact impl_AreCrew.mono _ _)
   | (with_reducible exact impl_has.mono _ _ _)
   | (with_reducible exact impl_memberOf.mono _ _ _)
   | (with_reducible exact LeO.refl _)
   | (with_reducible exact LeO.none _)
   | (with_reducible refine LeO.ite ?_ ?_)
   | (with_reducible refine LeO.bind ?_ (fun _ => ?_))
   | exact ih0 _ _ _ _ _
   | exact impl_AreCrew.mono _ _
   | exact impl_has.mono _ _ _
   | exact impl_memberOf.mono _ _ _
   | exact LeO.none _
   | refine LeO.ite ?_ ?_
   | refine LeO.bind ?_ (fun _ => ?_)
theorem impl_AreVotes.mono : ∀ a0 a1 k, LeO (impl_AreVotes.f k a0 a1) (impl_AreVotes.f (k + 1) a0 a1) := by
 intro a0 a1 k
 have ih0:=impl_AreVotes.mono_l k
 unfold impl_AreVotes.f
 repeat' first
   | (with_reducible exact ih0 _ _ _ _ _)
   | (with_reducible exact impl_AreCrew.mono _ _)
   | (with_reducible exact impl_has.mono _ _ _)
   | (with_reducible exact impl_memberOf.mono _ _ _)
   | (with_reducible exact LeO.refl _)
   | (with_reducible exact LeO.none _)
   | (with_reducible refine LeO.ite ?_ ?_)
   | (with_reducible refine LeO.bind ?_ (fun _ => ?_))
   | exact ih0 _ _ _ _ _
   | exact impl_AreCrew.mono _ _
   | exact impl_has.mono _ _ _
   | exact impl_memberOf.mono _ _ _
   | exact LeO.none _
   | refine LeO.ite ?_ ?_
   | refine LeO.bind ?_ (fun _ => ?_)
set_option maxHeartbeats 8000000 in
set_option maxRecDepth 100000 in
theorem impl_AreVotes.calls (k : Nat) (A0 : Option Addr) (c0 : Nat) (l0 : List (S68)) (A1 : Option Addr) (c1 : Nat) (l1 : List (S59)) (r : Bool) (w : World) (hr0 : Kd.C k68 w A0 l0.length l0) (hc0 : l0.length ≤ c0) (hr1 : Kd.C k59 w A1 l1.length l1) (hc1 : l1.length ≤ c1) (h : impl_AreVotes.f k l0 l1 = some r) :
  Calls Try.prog 38 #[.slice A0 l0.length c0,.slice A1 l1.length c1] w fun e w' => e = .returned (.bool r) ∧ Below w.heap.size w w':=by
 have hu59:=Try.underlying59;have HR0:=am hr0;have HC0:=am hc0;clear hr0 hc0;have HR1:=am hr1;have HC1:=am hc1;clear hr1 hc1;have HB:=am (Below.refl w.heap.size w);have H : (impl_AreVotes.l0 k l0 (([] : List Int)) l1 (l1.length : Int) 0) = some r:=h;clear h;obtain ⟨y114,hy114⟩ : ∃ y_ : List Int,y_ = (([] : List Int)):=⟨_,rfl⟩
 replace H : (impl_AreVotes.l0 k l0 y114 l1 (l1.length : Int) 0) = some r:=by first | (rw [hy114];with_reducible exact H) | (have H2_:=(Option.bind_some _ _).symm.trans H;rw [hy114];with_reducible exact H2_) | (have H2_:=(Option.bind_some _ _).symm.trans H;with_reducible exact H2_) | with_reducible exact H | (rw [hy114];exact H) | exact H
 have Ny114:=am hy114;clear hy114;have H':=am H;clear H
 go_enter Try.func38,Try.ntmps38
 go_wp2_with (first | ((with_reducible refine gate_dst (N:=8) rfl ?_);refine Kd.R_lit (Kd.int .i64) _ 3 ?hg (N:=8) ?hd (xs:=([] : List Int)) (inner:=[]) (ok:=fun _ => True) (okp:=fun _ => True) ?hr ?hp (fun _ hk => hk) trivial (Below.refl _ _) (Nat.le_refl _) (by simp) ?_;(case hd => rfl);(case hg => rfl);(case hr => first | (go_simp;done) | (go_simp;rfl));(case hp => exact (Reps.none _ _));intro v115 w3 ho4 hb hg_ hnew_;clear hg_ hnew_;(first | rw [← Ny114.out] at ho4 | (simp only [Int.reduceToNat] at ho4;rw [← Ny114.out] at ho4));have n0_:=am (Kd.R_lower ho4 (below_size (by repeat (first | (with_reducible first | exact HB.out | apply bA | apply bN | apply bD) | exact HB.out))));have n1_:=am (below_step (by repeat (first | (with_reducible first | exact HB.out | apply bA | apply bN | apply bD) | exact HB.out)) hb);clear HB;have HO116:=n0_;have HB:=n1_;clear n0_ n1_;clear hb ho4))
 go_loopg [5,11] k (fun kq v5 v11 w' => ∃ (x5_1 : List Int) (x11_1 : Int),v11 = .int .i64 x11_1 ∧ Aside0 (impl_AreVotes.l0 kq l0 x5_1 l1 (l1.length : Int) x11_1 = some r) ∧ Aside0 (kq ≤ k) ∧ Aside0 (Kd.R (Kd.int .i64) 3 w' w.heap.size (fun _ => True) v5 x5_1) ∧ Aside0 (Below w.heap.size w w'))
 case atStart => exact ⟨(y114),(0),(by first | rfl | (simp;done) | (simp [*];done)),H',⟨Nat.le_refl _⟩,⟨by (with_reducible repeat (first | apply kA | apply kN | apply kD));exact HO116.out⟩,⟨by repeat (first | (with_reducible first | exact HB.out | apply bA | apply bN | apply bD) | exact HB.out)⟩⟩
 case round =>
  clear H'
  try clear c1
  try clear p2
  try clear c3
  obtain ⟨x5_1,x11_1,rfl,HA,HK1,HO_5,HB⟩:=hrel
  cases gk with
  | zero => exact absurd HA.out (by simp [impl_AreVotes.l0])
  | succ k1 =>
   have H:=HA.out;clear HA;simp only [impl_AreVotes.l0] at H
   by_cases c5 : x11_1 < (l1.length : Int)
   ·rw [if_pos c5] at H;have c5b0 : decide (x11_1 < (l1.length : Int)) = true:=decide_eq_true c5;clear c5
    by_cases c6 : 0 ≤ x11_1
    ·rw [if_pos c6] at H;have c6b0 : decide (0 ≤ x11_1) = true:=decide_eq_true c6;clear c6
     by_cases c7 : x11_1 < (l1.length : Int)
     ·rw [if_pos c7] at H;have c7b0 : decide (x11_1 < (l1.length : Int)) = true:=decide_eq_true c7;clear c7;replace H:=bS.mp H;obtain ⟨t120,A80,H⟩:=H;replace H : (if t120 < 0 then (some false) else ((impl_has.f k1 x5_1 ((rd_T59 l1 x11_1).f0)).bind fun t121 => (if t121 = true then (some false) else ((impl_InRange.f ((rd_T59 l1 x11_1).f1) 0 9).bind fun t122 => (if t122 = true then (if x5_1.length < 17592186044416 then (impl_AreVotes.l0 k1 l0 (x5_1 ++ [(rd_T59 l1 x11_1).f0]) l1 (l1.length : Int) (wrap64 (x11_1 + 1))) else (none)) else (some false)))))) = some r:=H;have A8:=am A80;clear A80
      by_cases c9 : t120 < 0
      ·rw [if_pos c9] at H;have c9b0 : decide (t120 < 0) = true:=decide_eq_true c9;clear c9;obtain rfl:=Option.some.inj H;have p118 : 0 ≤ (x11_1 : Int):=odt (by first | (with_reducible assumption) | assumption);have q118 : x11_1 < (l1.length : Int):=odt (by first | (with_reducible assumption) | assumption);obtain ⟨ad118,e118,hx118_0,hx118_1⟩:=at_T59 HR1.out x11_1 p118 q118
       cases e118
       replace hx118_0:=(ct HB.out hx118_0 :)
       replace hx118_1:=(ct HB.out hx118_1 :)
       replace p118:=eq_true p118;replace q118:=eq_true q118;go_wp2_with (first | ((with_reducible refine gate_dst (N:=7) rfl ?_);refine box_event ?hg (N:=7) ?hd (cs:=#[.int .i64 0,.int .i64 0]) (t:=59) ?hr ?_;(case hd => rfl);(case hg => rfl);(case hr => first | (go_simp;done) | (go_simp;rfl));intro gb119 hg w10 hbox hb;have n0_:=am (Kd.R_below (by (with_reducible repeat (first | apply kA | apply kN | apply kD));exact HO_5.out) hb);have n1_:=am (below_step (by repeat (first | (with_reducible first | exact HB.out | apply bA | apply bN | apply bD) | exact HB.out)) hb);have n2_:=am (hbox);have n3_:=am ((by rw [hg];exact (below_size (by repeat (first | (with_reducible first | exact HB.out | apply bA | apply bN | apply bD) | exact HB.out))) : w.heap.size ≤ gb119));have n4_:=am ((by rw [hg];exact (below_size (by repeat (first | (with_reducible first | exact HB.out | apply bA | apply bN | apply bD) | exact HB.out))) : w.heap.size ≤ gb119));clear HO_5;clear HB;have HO_5:=n0_;have HB:=n1_;have BK119:=n2_;have GW119:=n3_;have GE119:=n4_;clear n0_ n1_ n2_ n3_ n4_;clear hb hbox hg;have hcz11_0 : w10.cell? ⟨gb119,0,none⟩ = some (.int .i64 0):=(blk_cell BK119.out 0).trans rfl;have hcz11_1 : w10.cell? ⟨gb119,1,none⟩ = some (.int .i64 0):=(blk_cell BK119.out 1).trans rfl;have hfz11_0:=blk_frozen BK119.out 0;have hfz11_1:=blk_frozen BK119.out 1) | ((with_reducible refine gate_callee (f:=69) rfl ?_);refine goesL_ (some 18) rfl rfl Try.func69 (by kernel_rfl) rfl #[.slice A0 l0.length c0,.int .i64 ((rd_T59 l1 x11_1).f0)] rfl (by (try simp only [List.map_toArray,List.map_cons,List.map_nil]);first | done | rfl | (simp only [List.length_drop,List.length_take];rfl)) ?_;(with_reducible refine (impl_memberOf.calls k1 _ _ l0 ((rd_T59 l1 x11_1).f0) t120 _ ?side1 ?side2 A8.out).mono ?_);(case side1 => exact Kd.C_below HR0.out (by repeat (first | (with_reducible first | exact HB.out | apply bA | apply bN | apply bD | refine below_set ?_ GE119.out) | exact HB.out)));(case side2 => exact HC0.out);rintro e w12 ⟨rfl,hb⟩;refine ⟨_,rfl,?_⟩;have n0_:=am (Kd.R_below (by (with_reducible repeat (first | apply kA | apply kN | apply kD));exact (Kd.R_mono (Kd.R_far (p:=⟨gb119,1,none⟩) (Kd.R_far (p:=⟨gb119,0,none⟩) (Kd.R_types HO_5.out BK119.out (by decide)) (fun _ hk => hk.2) (.int .i64 ((rd_T59 l1 x11_1).f0))) (fun _ hk => hk.2) (.int .i64 ((rd_T59 l1 x11_1).f1))) (fun _ h_ => h_.1))) hb);have n1_:=am (blk_below (g:=gb119) (o:=.cells #[.int .i64 ((rd_T59 l1 x11_1).f0),.int .i64 ((rd_T59 l1 x11_1).f1)] 59 (0,0)) (by (with_reducible repeat (first | refine dN ?_ _ | refine dD ?_ | refine dA ?_ _));refine blk_put (cs:=#[.int .i64 ((rd_T59 l1 x11_1).f0),.int .i64 0]) ?_ 1 _ rfl;(with_reducible repeat (first | refine dN ?_ _ | refine dD ?_ | refine dA ?_ _));refine blk_put (cs:=#[.int .i64 0,.int .i64 0]) ?_ 0 _ rfl;(with_reducible repeat (first | refine dN ?_ _ | refine dD ?_ | refine dA ?_ _));exact BK119.out) hb);have n2_:=am (below_step (by repeat (first | (with_reducible first | exact HB.out | apply bA | apply bN | apply bD | refine below_set ?_ GE119.out) | exact HB.out)) hb);clear HO_5;clear BK119;clear HB;have HO_5:=n0_;have BK119:=n1_;have HB:=n2_;clear n0_ n1_ n2_;(try clear hb);(try clear hb2);(try clear hk);(try clear hi)))
       go_ret
       exact ⟨by first | rfl | (simp [errW_none,errW_some] <;> rfl) | (simp [*,errW_none,errW_some] <;> rfl),by repeat (first | (with_reducible first | exact HB.out | apply bA | apply bN | apply bD | refine below_set ?_ GE119.out) | exact HB.out)⟩
      ·rw [if_neg c9] at H;have c9b0 : decide (t120 < 0) = false:=decide_eq_false c9;clear c9;replace H:=bS.mp H;obtain ⟨t121,A130,H⟩:=H;replace H : (if t121 = true then (some false) else ((impl_InRange.f ((rd_T59 l1 x11_1).f1) 0 9).bind fun t122 => (if t122 = true then (if x5_1.length < 17592186044416 then (impl_AreVotes.l0 k1 l0 (x5_1 ++ [(rd_T59 l1 x11_1).f0]) l1 (l1.length : Int) (wrap64 (x11_1 + 1))) else (none)) else (some false)))) = some r:=H;have A13:=am A130;clear A130
       by_cases c14 : t121 = true
       ·subst c14;have H1 : (some false) = some r:=by rw [if_pos rfl] at H;exact H
        clear H;have H:=H1;clear H1;obtain rfl:=Option.some.inj H;have p118 : 0 ≤ (x11_1 : Int):=odt (by first | (with_reducible assumption) | assumption);have q118 : x11_1 < (l1.length : Int):=odt (by first | (with_reducible assumption) | assumption);obtain ⟨ad118,e118,hx118_0,hx118_1⟩:=at_T59 HR1.out x11_1 p118 q118
        cases e118
        replace hx118_0:=(ct HB.out hx118_0 :)
        replace hx118_1:=(ct HB.out hx118_1 :)
        replace p118:=eq_true p118;replace q118:=eq_true q118;go_wp2_with (first | ((with_reducible refine gate_dst (N:=7) rfl ?_);refine box_event ?hg (N:=7) ?hd (cs:=#[.int .i64 0,.int .i64 0]) (t:=59) ?hr ?_;(case hd => rfl);(case hg => rfl);(case hr => first | (go_simp;done) | (go_simp;rfl));intro gb119 hg w15 hbox hb;have n0_:=am (Kd.R_below (by (with_reducible repeat (first | apply kA | apply kN | apply kD));exact HO_5.out) hb);have n1_:=am (below_step (by repeat (first | (with_reducible first | exact HB.out | apply bA | apply bN | apply bD) | exact HB.out)) hb);have n2_:=am (hbox);have n3_:=am ((by rw [hg];exact (below_size (by repeat (first | (with_reducible first | exact HB.out | apply bA | apply bN | apply bD) | exact HB.out))) : w.heap.size ≤ gb119));have n4_:=am ((by rw [hg];exact (below_size (by repeat (first | (with_reducible first | exact HB.out | apply bA | apply bN | apply bD) | exact HB.out))) : w.heap.size ≤ gb119));clear HO_5;clear HB;have HO_5:=n0_;have HB:=n1_;have BK119:=n2_;have GW119:=n3_;have GE119:=n4_;clear n0_ n1_ n2_ n3_ n4_;clear hb hbox hg;have hcz16_0 : w15.cell? ⟨gb119,0,none⟩ = some (.int .i64 0):=(blk_cell BK119.out 0).trans rfl;have hcz16_1 : w15.cell? ⟨gb119,1,none⟩ = some (.int .i64 0):=(blk_cell BK119.out 1).trans rfl;have hfz16_0:=blk_frozen BK119.out 0;have hfz16_1:=blk_frozen BK119.out 1) | ((with_reducible refine gate_callee (f:=69) rfl ?_);refine goesL_ (some 18) rfl rfl Try.func69 (by kernel_rfl) rfl #[.slice A0 l0.length c0,.int .i64 ((rd_T59 l1 x11_1).f0)] rfl (by (try simp only [List.map_toArray,List.map_cons,List.map_nil]);first | done | rfl | (simp only [List.length_drop,List.length_take];rfl)) ?_;(with_reducible refine (impl_memberOf.calls k1 _ _ l0 ((rd_T59 l1 x11_1).f0) t120 _ ?side1 ?side2 A8.out).mono ?_);(case side1 => exact Kd.C_below HR0.out (by repeat (first | (with_reducible first | exact HB.out | apply bA | apply bN | apply bD | refine below_set ?_ GE119.out) | exact HB.out)));(case side2 => exact HC0.out);rintro e w17 ⟨rfl,hb⟩;refine ⟨_,rfl,?_⟩;have n0_:=am (Kd.R_below (by (with_reducible repeat (first | apply kA | apply kN | apply kD));exact (Kd.R_mono (Kd.R_far (p:=⟨gb119,1,none⟩) (Kd.R_far (p:=⟨gb119,0,none⟩) (Kd.R_types HO_5.out BK119.out (by decide)) (fun _ hk => hk.2) (.int .i64 ((rd_T59 l1 x11_1).f0))) (fun _ hk => hk.2) (.int .i64 ((rd_T59 l1 x11_1).f1))) (fun _ h_ => h_.1))) hb);have n1_:=am (blk_below (g:=gb119) (o:=.cells #[.int .i64 ((rd_T59 l1 x11_1).f0),.int .i64 ((rd_T59 l1 x11_1).f1)] 59 (0,0)) (by (with_reducible repeat (first | refine dN ?_ _ | refine dD ?_ | refine dA ?_ _));refine blk_put (cs:=#[.int .i64 ((rd_T59 l1 x11_1).f0),.int .i64 0]) ?_ 1 _ rfl;(with_reducible repeat (first | refine dN ?_ _ | refine dD ?_ | refine dA ?_ _));refine blk_put (cs:=#[.int .i64 0,.int .i64 0]) ?_ 0 _ rfl;(with_reducible repeat (first | refine dN ?_ _ | refine dD ?_ | refine dA ?_ _));exact BK119.out) hb);have n2_:=am (below_step (by repeat (first | (with_reducible first | exact HB.out | apply bA | apply bN | apply bD | refine below_set ?_ GE119.out) | exact HB.out)) hb);clear HO_5;clear BK119;clear HB;have HO_5:=n0_;have BK119:=n1_;have HB:=n2_;clear n0_ n1_ n2_;(try clear hb);(try clear hb2);(try clear hk);(try clear hi);have hcz18_0 : w17.cell? ⟨gb119,0,none⟩ = some (.int .i64 ((rd_T59 l1 x11_1).f0)):=(blk_cell BK119.out 0).trans rfl;have hcz18_1 : w17.cell? ⟨gb119,1,none⟩ = some (.int .i64 ((rd_T59 l1 x11_1).f1)):=(blk_cell BK119.out 1).trans rfl;have hfz18_0:=blk_frozen BK119.out 0;have hfz18_1:=blk_frozen BK119.out 1;obtain ⟨Ao19,co19,eo19⟩:=Kd.R_slice HO_5.out;subst eo19) | (go_at_call 70;(with_reducible refine (impl_has.calls k1 _ _ x5_1 ((rd_T59 l1 x11_1).f0) true _ ?side1 ?side2 A13.out).mono ?_);(case side1 => repeat (first | exact (Kd.R_reads' HO_5.out).2.2 | (with_reducible refine cA ?_ _) | (with_reducible refine cN ?_ _) | (with_reducible refine cD ?_)));(case side2 => exact (Kd.R_reads' HO_5.out).2.1);rintro e w' ⟨rfl,⟨nd,rfl⟩⟩))
        go_ret
        exact ⟨by first | rfl | (simp [errW_none,errW_some] <;> rfl) | (simp [*,errW_none,errW_some] <;> rfl),by repeat (first | (with_reducible first | exact HB.out | apply bA | apply bN | apply bD | refine below_set ?_ GE119.out) | exact HB.out)⟩
       ·replace c14:=Bool.eq_false_iff.mpr c14;subst c14;have H1 : ((impl_InRange.f ((rd_T59 l1 x11_1).f1) 0 9).bind fun t122 => (if t122 = true then (if x5_1.length < 17592186044416 then (impl_AreVotes.l0 k1 l0 (x5_1 ++ [(rd_T59 l1 x11_1).f0]) l1 (l1.length : Int) (wrap64 (x11_1 + 1))) else (none)) else (some false))) = some r:=by rw [if_neg (show ¬ (false = true) by decide)] at H;exact H
        clear H;have H:=H1;clear H1;replace H:=bS.mp H;obtain ⟨t122,A200,H⟩:=H;replace H : (if t122 = true then (if x5_1.length < 17592186044416 then (impl_AreVotes.l0 k1 l0 (x5_1 ++ [(rd_T59 l1 x11_1).f0]) l1 (l1.length : Int) (wrap64 (x11_1 + 1))) else (none)) else (some false)) = some r:=H;have A20:=am A200;clear A200
        by_cases c21 : t122 = true
        ·subst c21;have H1 : (if x5_1.length < 17592186044416 then (impl_AreVotes.l0 k1 l0 (x5_1 ++ [(rd_T59 l1 x11_1).f0]) l1 (l1.length : Int) (wrap64 (x11_1 + 1))) else (none)) = some r:=by rw [if_pos rfl] at H;exact H
         clear H;have H:=H1;clear H1
         by_cases c22 : x5_1.length < 17592186044416
         ·rw [if_pos c22] at H;have LMc22:=am c22;clear c22;obtain ⟨y123,hy123⟩ : ∃ y_ : List Int,y_ = (x5_1 ++ [(rd_T59 l1 x11_1).f0]):=⟨_,rfl⟩
          replace H : (impl_AreVotes.l0 k1 l0 y123 l1 (l1.length : Int) (wrap64 (x11_1 + 1))) = some r:=by first | (rw [hy123];with_reducible exact H) | (have H2_:=(Option.bind_some _ _).symm.trans H;rw [hy123];with_reducible exact H2_) | (have H2_:=(Option.bind_some _ _).symm.trans H;with_reducible exact H2_) | with_reducible exact H | (rw [hy123];exact H) | exact H
          have Ny123:=am hy123;clear hy123;have H':=am H;clear H;have p118 : 0 ≤ (x11_1 : Int):=odt (by first | (with_reducible assumption) | assumption);have q118 : x11_1 < (l1.length : Int):=odt (by first | (with_reducible assumption) | assumption);obtain ⟨ad118,e118,hx118_0,hx118_1⟩:=at_T59 HR1.out x11_1 p118 q118
          cases e118
          replace hx118_0:=(ct HB.out hx118_0 :)
          replace hx118_1:=(ct HB.out hx118_1 :)
          replace p118:=eq_true p118;replace q118:=eq_true q118;go_wp2_with (first | ((with_reducible refine gate_dst (N:=7) rfl ?_);refine box_event ?hg (N:=7) ?hd (cs:=#[.int .i64 0,.int .i64 0]) (t:=59) ?hr ?_;(case hd => rfl);(case hg => rfl);(case hr => first | (go_simp;done) | (go_simp;rfl));intro gb119 hg w23 hbox hb;have n0_:=am (Kd.R_below (by (with_reducible repeat (first | apply kA | apply kN | apply kD));exact HO_5.out) hb);have n1_:=am (below_step (by repeat (first | (with_reducible first | exact HB.out | apply bA | apply bN | apply bD) | exact HB.out)) hb);have n2_:=am (hbox);have n3_:=am ((by rw [hg];exact (below_size (by repeat (first | (with_reducible first | exact HB.out | apply bA | apply bN | apply bD) | exact HB.out))) : w.heap.size ≤ gb119));have n4_:=am ((by rw [hg];exact (below_size (by repeat (first | (with_reducible first | exact HB.out | apply bA | apply bN | apply bD) | exact HB.out))) : w.heap.size ≤ gb119));clear HO_5;clear HB;have HO_5:=n0_;have HB:=n1_;have BK119:=n2_;have GW119:=n3_;have GE119:=n4_;clear n0_ n1_ n2_ n3_ n4_;clear hb hbox hg;have hcz24_0 : w23.cell? ⟨gb119,0,none⟩ = some (.int .i64 0):=(blk_cell BK119.out 0).trans rfl;have hcz24_1 : w23.cell? ⟨gb119,1,none⟩ = some (.int .i64 0):=(blk_cell BK119.out 1).trans rfl;have hfz24_0:=blk_frozen BK119.out 0;have hfz24_1:=blk_frozen BK119.out 1) | ((with_reducible refine gate_callee (f:=69) rfl ?_);refine goesL_ (some 18) rfl rfl Try.func69 (by kernel_rfl) rfl #[.slice A0 l0.length c0,.int .i64 ((rd_T59 l1 x11_1).f0)] rfl (by (try simp only [List.map_toArray,List.map_cons,List.map_nil]);first | done | rfl | (simp only [List.length_drop,List.length_take];rfl)) ?_;(with_reducible refine (impl_memberOf.calls k1 _ _ l0 ((rd_T59 l1 x11_1).f0) t120 _ ?side1 ?side2 A8.out).mono ?_);(case side1 => exact Kd.C_below HR0.out (by repeat (first | (with_reducible first | exact HB.out | apply bA | apply bN | apply bD | refine below_set ?_ GE119.out) | exact HB.out)));(case side2 => exact HC0.out);rintro e w25 ⟨rfl,hb⟩;refine ⟨_,rfl,?_⟩;have n0_:=am (Kd.R_below (by (with_reducible repeat (first | apply kA | apply kN | apply kD));exact (Kd.R_mono (Kd.R_far (p:=⟨gb119,1,none⟩) (Kd.R_far (p:=⟨gb119,0,none⟩) (Kd.R_types HO_5.out BK119.out (by decide)) (fun _ hk => hk.2) (.int .i64 ((rd_T59 l1 x11_1).f0))) (fun _ hk => hk.2) (.int .i64 ((rd_T59 l1 x11_1).f1))) (fun _ h_ => h_.1))) hb);have n1_:=am (blk_below (g:=gb119) (o:=.cells #[.int .i64 ((rd_T59 l1 x11_1).f0),.int .i64 ((rd_T59 l1 x11_1).f1)] 59 (0,0)) (by (with_reducible repeat (first | refine dN ?_ _ | refine dD ?_ | refine dA ?_ _));refine blk_put (cs:=#[.int .i64 ((rd_T59 l1 x11_1).f0),.int .i64 0]) ?_ 1 _ rfl;(with_reducible repeat (first | refine dN ?_ _ | refine dD ?_ | refine dA ?_ _));refine blk_put (cs:=#[.int .i64 0,.int .i64 0]) ?_ 0 _ rfl;(with_reducible repeat (first | refine dN ?_ _ | refine dD ?_ | refine dA ?_ _));exact BK119.out) hb);have n2_:=am (below_step (by repeat (first | (with_reducible first | exact HB.out | apply bA | apply bN | apply bD | refine below_set ?_ GE119.out) | exact HB.out)) hb);clear HO_5;clear BK119;clear HB;have HO_5:=n0_;have BK119:=n1_;have HB:=n2_;clear n0_ n1_ n2_;(try clear hb);(try clear hb2);(try clear hk);(try clear hi);have hcz26_0 : w25.cell? ⟨gb119,0,none⟩ = some (.int .i64 ((rd_T59 l1 x11_1).f0)):=(blk_cell BK119.out 0).trans rfl;have hcz26_1 : w25.cell? ⟨gb119,1,none⟩ = some (.int .i64 ((rd_T59 l1 x11_1).f1)):=(blk_cell BK119.out 1).trans rfl;have hfz26_0:=blk_frozen BK119.out 0;have hfz26_1:=blk_frozen BK119.out 1;obtain ⟨Ao27,co27,eo27⟩:=Kd.R_slice HO_5.out;subst eo27) | (go_at_call 70;(with_reducible refine (impl_has.calls k1 _ _ x5_1 ((rd_T59 l1 x11_1).f0) false _ ?side1 ?side2 A13.out).mono ?_);(case side1 => repeat (first | exact (Kd.R_reads' HO_5.out).2.2 | (with_reducible refine cA ?_ _) | (with_reducible refine cN ?_ _) | (with_reducible refine cD ?_)));(case side2 => exact (Kd.R_reads' HO_5.out).2.1);rintro e w' ⟨rfl,⟨nd,rfl⟩⟩) | (go_at_call 58;(with_reducible refine (impl_InRange.calls ((rd_T59 l1 x11_1).f1) 0 9 true _ A20.out).mono ?_);rintro e w' ⟨rfl,⟨nd,rfl⟩⟩) | ((with_reducible refine gate_builtin (b:=.append) (xs:=#[.tmp 32,.tmp 35]) rfl ?_);at_builtin;refine Kd.R_append (Kd.int .i64) (w0:=w) w.heap.size rfl (.tmp 32) (.tmp 35) 40 3 (.int .i64 0) 8 rfl Try.underlying40 info3 rfl (by decide) (by omega) (.slice Ao27 x5_1.length co27) x5_1 ((rd_T59 l1 x11_1).f0) [.int .i64 ((rd_T59 l1 x11_1).f0)] (fun _ => True) (fun _ => False) rfl rfl ?aP (fun _ hk => hk.elim) ?aF ?aO ?aB ?aS ?aL ?_;(case aP => exact rfl);(case aB => exact (by repeat (first | (with_reducible first | exact HB.out | apply bA | apply bN | apply bD | refine below_set ?_ GE119.out) | exact HB.out)));(case aF => exact (fun _ _ => trivial));(case aO => exact (by (with_reducible repeat (first | apply kA | apply kN | apply kD));exact HO_5.out));(case aS => exact (below_size (by repeat (first | (with_reducible first | exact HB.out | apply bA | apply bN | apply bD | refine below_set ?_ GE119.out) | exact HB.out))));(case aL => have:=LMc22.out;omega);intro v124 w28 ho hb hg hat;rw [← Ny123.out] at ho;have n0_:=am (blk_grown (g:=gb119) (o:=.cells #[.int .i64 ((rd_T59 l1 x11_1).f0),.int .i64 ((rd_T59 l1 x11_1).f1)] 59 (0,0)) (by (with_reducible repeat (first | refine dN ?_ _ | refine dD ?_ | refine dA ?_ _));exact BK119.out) hg (Kd.R_ne HO_5.out BK119.out (by decide)));have n1_:=am (hb);have n2_:=am (ho);clear BK119;clear HB;clear HO_5;have BK119:=n0_;have HB:=n1_;have HO125:=n2_;clear n0_ n1_ n2_;clear ho hb hg hat))
          go_roundg k1
          case measure => have:=HK1.out;omega
          case rel => exact ⟨(y123),(wrap64 (x11_1 + 1)),(by first | rfl | (simp;done) | (simp [*];done)),H',⟨by have:=HK1.out;omega⟩,⟨by (with_reducible repeat (first | apply kA | apply kN | apply kD));exact HO125.out⟩,⟨by repeat (first | (with_reducible first | exact HB.out | apply bA | apply bN | apply bD | refine below_set ?_ GE119.out) | exact HB.out)⟩⟩
         ·rw [if_neg c22] at H;exact absurd H (by simp)
        ·replace c21:=Bool.eq_false_iff.mpr c21;subst c21;have H1 : (some false) = some r:=by rw [if_neg (show ¬ (false = true) by decide)] at H;exact H
         clear H;have H:=H1;clear H1;obtain rfl:=Option.some.inj H;have p118 : 0 ≤ (x11_1 : Int):=odt (by first | (with_reducible assumption) | assumption);have q118 : x11_1 < (l1.length : Int):=odt (by first | (with_reducible assumption) | assumption);obtain ⟨ad118,e118,hx118_0,hx118_1⟩:=at_T59 HR1.out x11_1 p118 q118
         cases e118
         replace hx118_0:=(ct HB.out hx118_0 :)
         replace hx118_1:=(ct HB.out hx118_1 :)
         replace p118:=eq_true p118;replace q118:=eq_true q118;go_wp2_with (first | ((with_reducible refine gate_dst (N:=7) rfl ?_);refine box_event ?hg (N:=7) ?hd (cs:=#[.int .i64 0,.int .i64 0]) (t:=59) ?hr ?_;(case hd => rfl);(case hg => rfl);(case hr => first | (go_simp;done) | (go_simp;rfl));intro gb119 hg w29 hbox hb;have n0_:=am (Kd.R_below (by (with_reducible repeat (first | apply kA | apply kN | apply kD));exact HO_5.out) hb);have n1_:=am (below_step (by repeat (first | (with_reducible first | exact HB.out | apply bA | apply bN | apply bD) | exact HB.out)) hb);have n2_:=am (hbox);have n3_:=am ((by rw [hg];exact (below_size (by repeat (first | (with_reducible first | exact HB.out | apply bA | apply bN | apply bD) | exact HB.out))) : w.heap.size ≤ gb119));have n4_:=am ((by rw [hg];exact (below_size (by repeat (first | (with_reducible first | exact HB.out | apply bA | apply bN | apply bD) | exact HB.out))) : w.heap.size ≤ gb119));clear HO_5;clear HB;have HO_5:=n0_;have HB:=n1_;have BK119:=n2_;have GW119:=n3_;have GE119:=n4_;clear n0_ n1_ n2_ n3_ n4_;clear hb hbox hg;have hcz30_0 : w29.cell? ⟨gb119,0,none⟩ = some (.int .i64 0):=(blk_cell BK119.out 0).trans rfl;have hcz30_1 : w29.cell? ⟨gb119,1,none⟩ = some (.int .i64 0):=(blk_cell BK119.out 1).trans rfl;have hfz30_0:=blk_frozen BK119.out 0;have hfz30_1:=blk_frozen BK119.out 1) | ((with_reducible refine gate_callee (f:=69) rfl ?_);refine goesL_ (some 18) rfl rfl Try.func69 (by kernel_rfl) rfl #[.slice A0 l0.length c0,.int .i64 ((rd_T59 l1 x11_1).f0)] rfl (by (try simp only [List.map_toArray,List.map_cons,List.map_nil]);first | done | rfl | (simp only [List.length_drop,List.length_take];rfl)) ?_;(with_reducible refine (impl_memberOf.calls k1 _ _ l0 ((rd_T59 l1 x11_1).f0) t120 _ ?side1 ?side2 A8.out).mono ?_);(case side1 => exact Kd.C_below HR0.out (by repeat (first | (with_reducible first | exact HB.out | apply bA | apply bN | apply bD | refine below_set ?_ GE119.out) | exact HB.out)));(case side2 => exact HC0.out);rintro e w31 ⟨rfl,hb⟩;refine ⟨_,rfl,?_⟩;have n0_:=am (Kd.R_below (by (with_reducible repeat (first | apply kA | apply kN | apply kD));exact (Kd.R_mono (Kd.R_far (p:=⟨gb119,1,none⟩) (Kd.R_far (p:=⟨gb119,0,none⟩) (Kd.R_types HO_5.out BK119.out (by decide)) (fun _ hk => hk.2) (.int .i64 ((rd_T59 l1 x11_1).f0))) (fun _ hk => hk.2) (.int .i64 ((rd_T59 l1 x11_1).f1))) (fun _ h_ => h_.1))) hb);have n1_:=am (blk_below (g:=gb119) (o:=.cells #[.int .i64 ((rd_T59 l1 x11_1).f0),.int .i64 ((rd_T59 l1 x11_1).f1)] 59 (0,0)) (by (with_reducible repeat (first | refine dN ?_ _ | refine dD ?_ | refine dA ?_ _));refine blk_put (cs:=#[.int .i64 ((rd_T59 l1 x11_1).f0),.int .i64 0]) ?_ 1 _ rfl;(with_reducible repeat (first | refine dN ?_ _ | refine dD ?_ | refine dA ?_ _));refine blk_put (cs:=#[.int .i64 0,.int .i64 0]) ?_ 0 _ rfl;(with_reducible repeat (first | refine dN ?_ _ | refine dD ?_ | refine dA ?_ _));exact BK119.out) hb);have n2_:=am (below_step (by repeat (first | (with_reducible first | exact HB.out | apply bA | apply bN | apply bD | refine below_set ?_ GE119.out) | exact HB.out)) hb);clear HO_5;clear BK119;clear HB;have HO_5:=n0_;have BK119:=n1_;have HB:=n2_;clear n0_ n1_ n2_;(try clear hb);(try clear hb2);(try clear hk);(try clear hi);have hcz32_0 : w31.cell? ⟨gb119,0,none⟩ = some (.int .i64 ((rd_T59 l1 x11_1).f0)):=(blk_cell BK119.out 0).trans rfl;have hcz32_1 : w31.cell? ⟨gb119,1,none⟩ = some (.int .i64 ((rd_T59 l1 x11_1).f1)):=(blk_cell BK119.out 1).trans rfl;have hfz32_0:=blk_frozen BK119.out 0;have hfz32_1:=blk_frozen BK119.out 1;obtain ⟨Ao33,co33,eo33⟩:=Kd.R_slice HO_5.out;subst eo33) | (go_at_call 70;(with_reducible refine (impl_has.calls k1 _ _ x5_1 ((rd_T59 l1 x11_1).f0) false _ ?side1 ?side2 A13.out).mono ?_);(case side1 => repeat (first | exact (Kd.R_reads' HO_5.out).2.2 | (with_reducible refine cA ?_ _) | (with_reducible refine cN ?_ _) | (with_reducible refine cD ?_)));(case side2 => exact (Kd.R_reads' HO_5.out).2.1);rintro e w' ⟨rfl,⟨nd,rfl⟩⟩) | (go_at_call 58;(with_reducible refine (impl_InRange.calls ((rd_T59 l1 x11_1).f1) 0 9 false _ A20.out).mono ?_);rintro e w' ⟨rfl,⟨nd,rfl⟩⟩))
         go_ret
         exact ⟨by first | rfl | (simp [errW_none,errW_some] <;> rfl) | (simp [*,errW_none,errW_some] <;> rfl),by repeat (first | (with_reducible first | exact HB.out | apply bA | apply bN | apply bD | refine below_set ?_ GE119.out) | exact HB.out)⟩
     ·rw [if_neg c7] at H;exact absurd H (by simp)
    ·rw [if_neg c6] at H;exact absurd H (by simp)
   ·rw [if_neg c5] at H;have c5b0 : decide (x11_1 < (l1.length : Int)) = false:=decide_eq_false c5;clear c5;replace H:=bS.mp H;obtain ⟨t117,A340,H⟩:=H;replace H : (some t117) = some r:=H;have A34:=am A340;clear A340;obtain rfl:=Option.some.inj H;go_wp2_with (first | ((with_reducible refine gate_callee (f:=30) rfl ?_);refine goesL_ (some 39) rfl rfl Try.func30 (by kernel_rfl) rfl #[.slice A0 l0.length c0] rfl (by (try simp only [List.map_toArray,List.map_cons,List.map_nil]);first | done | rfl | (simp only [List.length_drop,List.length_take];rfl)) ?_;(with_reducible refine (impl_AreCrew.calls k1 _ _ l0 t117 _ ?side1 ?side2 A34.out).mono ?_);(case side1 => repeat (first | exact (Kd.C_below HR0.out HB.out) | (with_reducible refine cA ?_ _) | (with_reducible refine cN ?_ _) | (with_reducible refine cD ?_)));(case side2 => exact HC0.out);rintro e w35 ⟨rfl,hb⟩;refine ⟨_,rfl,?_⟩;have n0_:=am (Kd.R_below (by (with_reducible repeat (first | apply kA | apply kN | apply kD));exact HO_5.out) hb);have n1_:=am (below_step (by repeat (first | (with_reducible first | exact HB.out | apply bA | apply bN | apply bD) | exact HB.out)) hb);clear HO_5;clear HB;have HO_5:=n0_;have HB:=n1_;clear n0_ n1_;(try clear hb);(try clear hb2);(try clear hk);(try clear hi)))
    go_ret
    exact ⟨by first | rfl | (simp [errW_none,errW_some] <;> rfl) | (simp [*,errW_none,errW_some] <;> rfl),by repeat (first | (with_reducible first | exact HB.out | apply bA | apply bN | apply bD) | exact HB.out)⟩

/-! ### impl_CountFor: function 51 -/
def impl_CountFor.l0 : Nat → Int → Int → List (S59) → Int → Int → Option (Int)
 | 0,_,_,_,_,_ => none
 | k + 1,x1,x5,x8,x9,x10 => if x10 < x9 then (if 0 ≤ x10 then (if x10 < (x8.length : Int) then (if ((rd_T59 x8 x10).f1) = x1 then (impl_CountFor.l0 k x1 (wrap64 (x5 + 1)) x8 x9 (wrap64 (x10 + 1))) else (impl_CountFor.l0 k x1 x5 x8 x9 (wrap64 (x10 + 1)))) else (none)) else (none)) else (some x5)
def impl_CountFor.f (k : Nat) (l0 : List (S59)) (a1 : Int) : Option (Int) := impl_CountFor.l0 k a1 0 l0 (l0.length : Int) 0
theorem impl_CountFor.mono_l : ∀ k, (∀ y0 y1 y2 y3 y4, LeO (impl_CountFor.l0 k y0 y1 y2 y3 y4) (impl_CountFor.l0 (k + 1) y0 y1 y2 y3 y4))
 | 0 => fun _ _ _ _ _ r h => by simp [impl_CountFor.l0] at h
 | k + 1 => by
  have ih0:=impl_CountFor.mono_l k
  ·intro y0 y1 y2 y3 y4
   unfold impl_CountFor.l0
   repeat' first
   | (with_reducible exact ih0 _ _ _ _ _)
   | (with_reducible exact LeO.refl _)
   | (with_reducible exact LeO.none _)
   | (with_reducible refine LeO.ite ?_ ?_)
   | (with_reducible refine LeO.bind ?_ (fun _ => ?_))
   | exact ih0 _ _ _ _ _
   | exact LeO.none _
   | refine LeO.ite ?_ ?_
   | refine LeO.bind ?_ (fun _ => ?_)
theorem impl_CountFor.mono : ∀ a0 a1 k, LeO (impl_CountFor.f k a0 a1) (impl_CountFor.f (k + 1) a0 a1) := by
 intro a0 a1 k
 have ih0:=impl_CountFor.mono_l k
 unfold impl_CountFor.f
 repeat' first
   | (with_reducible exact ih0 _ _ _ _ _)
   | (with_reducible exact LeO.refl _)
   | (with_reducible exact LeO.none _)
   | (with_reducible refine LeO.ite ?_ ?_)
   | (with_reducible refine LeO.bind ?_ (fun _ => ?_))
   | exact ih0 _ _ _ _ _
   | exact LeO.none _
   | refine LeO.ite ?_ ?_
   | refine LeO.bind ?_ (fun _ => ?_)
set_option maxHeartbeats 8000000 in
set_option maxRecDepth 100000 in
theorem impl_CountFor.calls (k : Nat) (A0 : Option Addr) (c0 : Nat) (l0 : List (S59)) (a1 : Int) (r : Int) (w : World) (hr0 : Kd.C k59 w A0 l0.length l0) (hc0 : l0.length ≤ c0) (h : impl_CountFor.f k l0 a1 = some r) :
  Calls Try.prog 51 #[.slice A0 l0.length c0,.int .i64 a1] w fun e w' => e = .returned (.int .i64 r) ∧ Below w.heap.size w w':=by
 have hu59:=Try.underlying59;have HR0:=am hr0;have HC0:=am hc0;clear hr0 hc0;have HB:=am (Below.refl w.heap.size w);have H : (impl_CountFor.l0 k a1 0 l0 (l0.length : Int) 0) = some r:=h;clear h;have H':=am H;clear H
 go_enter Try.func51,Try.ntmps51
 go_wp2
 go_loopg [5,10] k (fun kq v5 v10 w' => ∃ (x5_1 : Int) (x10_1 : Int),v5 = .int .i64 x5_1 ∧ v10 = .int .i64 x10_1 ∧ Aside0 (impl_CountFor.l0 kq a1 x5_1 l0 (l0.length : Int) x10_1 = some r) ∧ Aside0 (kq ≤ k) ∧ Aside0 (Below w.heap.size w w'))
 case atStart => exact ⟨(0),(0),(by first | rfl | (simp;done) | (simp [*];done)),(by first | rfl | (simp;done) | (simp [*];done)),H',⟨Nat.le_refl _⟩,⟨by repeat (first | (with_reducible first | exact HB.out | apply bA | apply bN | apply bD) | exact HB.out)⟩⟩
 case round =>
  clear H'
  try clear p2
  obtain ⟨x5_1,x10_1,rfl,rfl,HA,HK1,HB⟩:=hrel
  cases gk with
  | zero => exact absurd HA.out (by simp [impl_CountFor.l0])
  | succ k1 =>
   have H:=HA.out;clear HA;simp only [impl_CountFor.l0] at H
   by_cases c3 : x10_1 < (l0.length : Int)
   ·rw [if_pos c3] at H;have c3b0 : decide (x10_1 < (l0.length : Int)) = true:=decide_eq_true c3;clear c3
    by_cases c4 : 0 ≤ x10_1
    ·rw [if_pos c4] at H;have c4b0 : decide (0 ≤ x10_1) = true:=decide_eq_true c4;clear c4
     by_cases c5 : x10_1 < (l0.length : Int)
     ·rw [if_pos c5] at H;have c5b0 : decide (x10_1 < (l0.length : Int)) = true:=decide_eq_true c5;clear c5
      by_cases c6 : ((rd_T59 l0 x10_1).f1) = a1
      ·rw [if_pos c6] at H;have c6b0 : (((rd_T59 l0 x10_1).f1) == a1) = true:=beq_iff_eq.mpr c6;have c6b1 : (((rd_T59 l0 x10_1).f1) != a1) = false:=bne_eq_false_iff_eq.mpr c6;clear c6;have H':=am H;clear H;have p126 : 0 ≤ (x10_1 : Int):=odt (by first | (with_reducible assumption) | assumption);have q126 : x10_1 < (l0.length : Int):=odt (by first | (with_reducible assumption) | assumption);obtain ⟨ad126,e126,hx126_0,hx126_1⟩:=at_T59 HR0.out x10_1 p126 q126
       cases e126
       replace hx126_0:=(ct HB.out hx126_0 :)
       replace hx126_1:=(ct HB.out hx126_1 :)
       replace p126:=eq_true p126;replace q126:=eq_true q126;go_wp2_with (first | ((with_reducible refine gate_dst (N:=7) rfl ?_);refine box_event ?hg (N:=7) ?hd (cs:=#[.int .i64 0,.int .i64 0]) (t:=59) ?hr ?_;(case hd => rfl);(case hg => rfl);(case hr => first | (go_simp;done) | (go_simp;rfl));intro gb127 hg w7 hbox hb;have n0_:=am (below_step (by repeat (first | (with_reducible first | exact HB.out | apply bA | apply bN | apply bD) | exact HB.out)) hb);have n1_:=am (hbox);have n2_:=am ((by rw [hg];exact (below_size (by repeat (first | (with_reducible first | exact HB.out | apply bA | apply bN | apply bD) | exact HB.out))) : w.heap.size ≤ gb127));have n3_:=am ((by rw [hg];exact (below_size (by repeat (first | (with_reducible first | exact HB.out | apply bA | apply bN | apply bD) | exact HB.out))) : w.heap.size ≤ gb127));clear HB;have HB:=n0_;have BK127:=n1_;have GW127:=n2_;have GE127:=n3_;clear n0_ n1_ n2_ n3_;clear hb hbox hg;have hcz8_0 : w7.cell? ⟨gb127,0,none⟩ = some (.int .i64 0):=(blk_cell BK127.out 0).trans rfl;have hcz8_1 : w7.cell? ⟨gb127,1,none⟩ = some (.int .i64 0):=(blk_cell BK127.out 1).trans rfl;have hfz8_0:=blk_frozen BK127.out 0;have hfz8_1:=blk_frozen BK127.out 1))
       go_roundg k1
       case measure => have:=HK1.out;omega
       case rel => exact ⟨(wrap64 (x5_1 + 1)),(wrap64 (x10_1 + 1)),(by first | rfl | (simp;done) | (simp [*];done)),(by first | rfl | (simp;done) | (simp [*];done)),H',⟨by have:=HK1.out;omega⟩,⟨by repeat (first | (with_reducible first | exact HB.out | apply bA | apply bN | apply bD | refine below_set ?_ GE127.out) | exact HB.out)⟩⟩
      ·rw [if_neg c6] at H;have c6b0 : (((rd_T59 l0 x10_1).f1) == a1) = false:=beq_eq_false_iff_ne.mpr c6;have c6b1 : (((rd_T59 l0 x10_1).f1) != a1) = true:=bne_iff_ne.mpr c6;have H':=am H;clear H;have p126 : 0 ≤ (x10_1 : Int):=odt (by first | (with_reducible assumption) | assumption);have q126 : x10_1 < (l0.length : Int):=odt (by first | (with_reducible assumption) | assumption);obtain ⟨ad126,e126,hx126_0,hx126_1⟩:=at_T59 HR0.out x10_1 p126 q126
       cases e126
       replace hx126_0:=(ct HB.out hx126_0 :)
       replace hx126_1:=(ct HB.out hx126_1 :)
       replace p126:=eq_true p126;replace q126:=eq_true q126;go_wp2_with (first | ((with_reducible refine gate_dst (N:=7) rfl ?_);refine box_event ?hg (N:=7) ?hd (cs:=#[.int .i64 0,.int .i64 0]) (t:=59) ?hr ?_;(case hd => rfl);(case hg => rfl);(case hr => first | (go_simp;done) | (go_simp;rfl));intro gb127 hg w9 hbox hb;have n0_:=am (below_step (by repeat (first | (with_reducible first | exact HB.out | apply bA | apply bN | apply bD) | exact HB.out)) hb);have n1_:=am (hbox);have n2_:=am ((by rw [hg];exact (below_size (by repeat (first | (with_reducible first | exact HB.out | apply bA | apply bN | apply bD) | exact HB.out))) : w.heap.size ≤ gb127));have n3_:=am ((by rw [hg];exact (below_size (by repeat (first | (with_reducible first | exact HB.out | apply bA | apply bN | apply bD) | exact HB.out))) : w.heap.size ≤ gb127));clear HB;have HB:=n0_;have BK127:=n1_;have GW127:=n2_;have GE127:=n3_;clear n0_ n1_ n2_ n3_;clear hb hbox hg;have hcz10_0 : w9.cell? ⟨gb127,0,none⟩ = some (.int .i64 0):=(blk_cell BK127.out 0).trans rfl;have hcz10_1 : w9.cell? ⟨gb127,1,none⟩ = some (.int .i64 0):=(blk_cell BK127.out 1).trans rfl;have hfz10_0:=blk_frozen BK127.out 0;have hfz10_1:=blk_frozen BK127.out 1))
       go_roundg k1
       case measure => have:=HK1.out;omega
       case rel => exact ⟨(x5_1),(wrap64 (x10_1 + 1)),(by first | rfl | (simp;done) | (simp [*];done)),(by first | rfl | (simp;done) | (simp [*];done)),H',⟨by have:=HK1.out;omega⟩,⟨by repeat (first | (with_reducible first | exact HB.out | apply bA | apply bN | apply bD | refine below_set ?_ GE127.out) | exact HB.out)⟩⟩
     ·rw [if_neg c5] at H;exact absurd H (by simp)
    ·rw [if_neg c4] at H;exact absurd H (by simp)
   ·rw [if_neg c3] at H;have c3b0 : decide (x10_1 < (l0.length : Int)) = false:=decide_eq_false c3;clear c3;obtain rfl:=Option.some.inj H;go_wp2
    go_ret
    exact ⟨by first | rfl | (simp [errW_none,errW_some] <;> rfl) | (simp [*,errW_none,errW_some] <;> rfl),by repeat (first | (with_reducible first | exact HB.out | apply bA | apply bN | apply bD) | exact HB.out)⟩

/-! ### impl_IsMajority: function 41 -/
def impl_IsMajority.f (k : Nat) (l0 : List (S68)) (l1 : List (S59)) (a2 : Int) : Option (Bool) := (impl_AreVotes.f k l0 l1).bind fun t128 => (if t128 = true then ((impl_CountFor.f k l1 a2).bind fun t129 => (some (decide ((wrap64 (2 * t129)) > (l0.length : Int))))) else (some false))
theorem impl_IsMajority.mono : ∀ a0 a1 a2 k, LeO (impl_IsMajority.f k a0 a1 a2) (impl_IsMajority.f (k + 1) a0 a1 a2) := by
 intro a0 a1 a2 k
 unfold impl_IsMajority.f
 repeat' first
   | (with_reducible exact impl_AreVotes.mono _ _ _)
   | (with_reducible exact impl_CountFor.mono _ _ _)
   | (with_reducible exact LeO.refl _)
   | (with_reducible exact LeO.none _)
   | (with_reducible refine LeO.ite ?_ ?_)
   | (with_reducible refine LeO.bind ?_ (fun _ => ?_))
   | exact impl_AreVotes.mono _ _ _
   | exact impl_CountFor.mono _ _ _
   | exact LeO.none _
   | refine LeO.ite ?_ ?_
   | refine LeO.bind ?_ (fun _ => ?_)
set_option maxHeartbeats 8000000 in
set_option maxRecDepth 100000 in
theorem impl_IsMajority.calls (k : Nat) (A0 : Option Addr) (c0 : Nat) (l0 : List (S68)) (A1 : Option Addr) (c1 : Nat) (l1 : List (S59)) (a2 : Int) (r : Bool) (w : World) (hr0 : Kd.C k68 w A0 l0.length l0) (hc0 : l0.length ≤ c0) (hr1 : Kd.C k59 w A1 l1.length l1) (hc1 : l1.length ≤ c1) (h : impl_IsMajority.f k l0 l1 a2 = some r) :
  Calls Try.prog 41 #[.slice A0 l0.length c0,.slice A1 l1.length c1,.int .i64 a2] w fun e w' => e = .returned (.bool r) ∧ Below w.heap.size w w':=by
 have HR0:=am hr0;have HC0:=am hc0;clear hr0 hc0;have HR1:=am hr1;have HC1:=am hc1;clear hr1 hc1;have HB:=am (Below.refl w.heap.size w);have H : ((impl_AreVotes.f k l0 l1).bind fun t128 => (if t128 = true then ((impl_CountFor.f k l1 a2).bind fun t129 => (some (decide ((wrap64 (2 * t129)) > (l0.length : Int))))) else (some false))) = some r:=h;clear h;replace H:=bS.mp H;obtain ⟨t128,A40,H⟩:=H;replace H : (if t128 = true then ((impl_CountFor.f k l1 a2).bind fun t129 => (some (decide ((wrap64 (2 * t129)) > (l0.length : Int))))) else (some false)) = some r:=H;have A4:=am A40;clear A40
 by_cases c5 : t128 = true
 ·subst c5;have H1 : ((impl_CountFor.f k l1 a2).bind fun t129 => (some (decide ((wrap64 (2 * t129)) > (l0.length : Int))))) = some r:=by rw [if_pos rfl] at H;exact H
  clear H;have H:=H1;clear H1;replace H:=bS.mp H;obtain ⟨t129,A60,H⟩:=H;replace H : (some (decide ((wrap64 (2 * t129)) > (l0.length : Int)))) = some r:=H;have A6:=am A60;clear A60;obtain rfl:=Option.some.inj H
  go_enter Try.func41,Try.ntmps41
  go_wp2_with (first | ((with_reducible refine gate_callee (f:=38) rfl ?_);refine goesL_ (some 9) rfl rfl Try.func38 (by kernel_rfl) rfl #[.slice A0 l0.length c0,.slice A1 l1.length c1] rfl (by (try simp only [List.map_toArray,List.map_cons,List.map_nil]);first | done | rfl | (simp only [List.length_drop,List.length_take];rfl)) ?_;(with_reducible refine (impl_AreVotes.calls k _ _ l0 _ _ l1 true _ ?side1 ?side2 ?side3 ?side4 A4.out).mono ?_);(case side1 => repeat (first | exact HR0.out | (with_reducible refine cA ?_ _) | (with_reducible refine cN ?_ _) | (with_reducible refine cD ?_)));(case side2 => exact HC0.out);(case side3 => repeat (first | exact HR1.out | (with_reducible refine cA ?_ _) | (with_reducible refine cN ?_ _) | (with_reducible refine cD ?_)));(case side4 => exact HC1.out);rintro e w7 ⟨rfl,hb⟩;refine ⟨_,rfl,?_⟩;have n0_:=am (below_step (by repeat (first | (with_reducible first | exact HB.out | apply bA | apply bN | apply bD) | exact HB.out)) hb);clear HB;have HB:=n0_;clear n0_;(try clear hb);(try clear hb2);(try clear hk);(try clear hi)) | (go_at_call 51;(with_reducible refine (impl_CountFor.calls k _ _ l1 a2 t129 _ ?side1 ?side2 A6.out).mono ?_);(case side1 => repeat (first | exact (Kd.C_below HR1.out HB.out) | (with_reducible refine cA ?_ _) | (with_reducible refine cN ?_ _) | (with_reducible refine cD ?_)));(case side2 => exact HC1.out);rintro e w8 ⟨rfl,hb⟩;have n0_:=am (below_step (by repeat (first | (with_reducible first | exact HB.out | apply bA | apply bN | apply bD) | exact HB.out)) hb);clear HB;have HB:=n0_;clear n0_;(try clear hb);(try clear hb2);(try clear hk);(try clear hi)))
  go_ret
  exact ⟨by first | rfl | (simp [errW_none,errW_some] <;> rfl) | (simp [*,errW_none,errW_some] <;> rfl),by repeat (first | (with_reducible first | exact HB.out | apply bA | apply bN | apply bD) | exact HB.out)⟩
 ·replace c5:=Bool.eq_false_iff.mpr c5;subst c5;have H1 : (some false) = some r:=by rw [if_neg (show ¬ (false = true) by decide)] at H;exact H
  clear H;have H:=H1;clear H1;obtain rfl:=Option.some.inj H
  go_enter Try.func41,Try.ntmps41
  go_wp2_with (first | ((with_reducible refine gate_callee (f:=38) rfl ?_);refine goesL_ (some 9) rfl rfl Try.func38 (by kernel_rfl) rfl #[.slice A0 l0.length c0,.slice A1 l1.length c1] rfl (by (try simp only [List.map_toArray,List.map_cons,List.map_nil]);first | done | rfl | (simp only [List.length_drop,List.length_take];rfl)) ?_;(with_reducible refine (impl_AreVotes.calls k _ _ l0 _ _ l1 false _ ?side1 ?side2 ?side3 ?side4 A4.out).mono ?_);(case side1 => repeat (first | exact HR0.out | (with_reducible refine cA ?_ _) | (with_reducible refine cN ?_ _) | (with_reducible refine cD ?_)));(case side2 => exact HC0.out);(case side3 => repeat (first | exact HR1.out | (with_reducible refine cA ?_ _) | (with_reducible refine cN ?_ _) | (with_reducible refine cD ?_)));(case side4 => exact HC1.out);rintro e w9 ⟨rfl,hb⟩;refine ⟨_,rfl,?_⟩;have n0_:=am (below_step (by repeat (first | (with_reducible first | exact HB.out | apply bA | apply bN | apply bD) | exact HB.out)) hb);clear HB;have HB:=n0_;clear n0_;(try clear hb);(try clear hb2);(try clear hk);(try clear hi)))
  go_ret
  exact ⟨by first | rfl | (simp [errW_none,errW_some] <;> rfl) | (simp [*,errW_none,errW_some] <;> rfl),by repeat (first | (with_reducible first | exact HB.out | apply bA | apply bN | apply bD) | exact HB.out)⟩

end Go.Proofs.Ytfccmpchpcflkaa.PFnVotes
