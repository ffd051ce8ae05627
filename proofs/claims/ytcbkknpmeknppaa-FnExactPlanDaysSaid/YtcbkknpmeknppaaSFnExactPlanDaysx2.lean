/- Contracts of functions that the law FnExactPlanDays reaches, for its row: lines that the kit's printer wrote for this claim, set shorter by a program of this session (own.py), and what fell in Lean proved anew. Lean checks them. -/
import Derived.Test.YtcbkknpmeknppaaSFnExactPlanDaysx0
import Derived.Test.YtcbkknpmeknppaaSFnExactPlanDaysx1
namespace Go.Proofs.Ytcbkknpmeknppaa.PFnExactPlanDays
open Go.RowKit Go.Proofs.YtcbkknpmeknppaaW.PrintWords Go.Proofs.YtcbkknpmeknppaaW.PrintLast Go.Proofs.YtcbkknpmeknppaaW.PrintMore
attribute [local go_sem] max2_int min2_int max_two min_two max_three min_three max_four min_four   -- for this text's walks alone
set_option linter.unusedVariables false
set_option linter.unusedSimpArgs false

/-! ### impl_Near: function 127 -/
def impl_Near.l0 : Nat → Int → List Int → List Int → Int → Int → Int → Int → List Int → Option (List Int)
 | 0,_,_,_,_,_,_,_,_ => none
 | k + 1,x1,x5,x25,x26,x27,x119000,x119001,x119002 => if x27 < x26 then (if 0 ≤ x27 then (if x27 < (x25.length : Int) then ((impl_IsOpen.f k x119000 x119001 x119002 (rd x25 x27)).bind fun t130 => (if t130 = true then ((impl_Apart.f k x119000 x119001 x119002 x1 (rd x25 x27)).bind fun t131 => (if t131 = 1 then (if x5.length < 17592186044416 then (impl_Near.l0 k x1 (x5 ++ [rd x25 x27]) x25 x26 (wrap64 (x27 + 1)) x119000 x119001 x119002) else (none)) else (impl_Near.l0 k x1 x5 x25 x26 (wrap64 (x27 + 1)) x119000 x119001 x119002))) else (impl_Near.l0 k x1 x5 x25 x26 (wrap64 (x27 + 1)) x119000 x119001 x119002))) else (none)) else (none)) else ((slices_Compact_int_int.f x5).bind fun t126 => (some t126))
def impl_Near.f (k : Nat) (a0_0 : Int) (a0_1 : Int) (l0_2 : List Int) (a1 : Int) : Option (List Int) := (impl_IsCell.f k a0_0 a0_1 l0_2 a1).bind fun t119 => (if t119 = true then ((some (([wrap64 (a1 - a0_0), wrap64 (a1 - 1), wrap64 (a1 + 1), wrap64 (a1 + a0_0)] : List Int) : List Int)).bind fun y123 => (impl_Near.l0 k a1 (([] : List Int)) y123 (y123.length : Int) 0 a0_0 a0_1 l0_2)) else (some ([] : List Int)))
theorem impl_Near.mono_l : ∀ k, (∀ y0 y1 y2 y3 y4 y5 y6 y7, LeO (impl_Near.l0 k y0 y1 y2 y3 y4 y5 y6 y7) (impl_Near.l0 (k + 1) y0 y1 y2 y3 y4 y5 y6 y7))
 | 0 => fun _ _ _ _ _ _ _ _ r h => by simp [impl_Near.l0] at h
 | k + 1 => by
  have ih0:=impl_Near.mono_l k
  ·intro y0 y1 y2 y3 y4 y5 y6 y7
   unfold impl_Near.l0
   repeat' first
   | (with_reducible exact ih0 _ _ _ _ _ _ _ _)
   | (with_reducible exact impl_Apart.mono _ _ _ _ _ _)
   | (with_reducible exact impl_IsCell.mono _ _ _ _ _)
   | (with_reducible exact impl_IsOpen.mono _ _ _ _ _)
   | (with_reducible exact LeO.refl _)
   | (with_reducible exact LeO.none _)
   | (with_reducible refine LeO.ite ?_ ?_)
   | (with_reducible refine LeO.bind ?_ (fun _ => ?_))
   | exact ih0 _ _ _ _ _ _ _ _
   | exact impl_Apart.mono _ _ _ _ _ _
   | exact impl_IsCell.mono _ _ _ _ _
   | exact impl_IsOpen.mono _ _ _ _ _
   | exact LeO.none _
   | refine LeO.ite ?_ ?_
   | refine LeO.bind ?_ (fun _ => ?_)
theorem impl_Near.mono : ∀ a0 a1 a2 a3 k, LeO (impl_Near.f k a0 a1 a2 a3) (impl_Near.f (k + 1) a0 a1 a2 a3) := by
 intro a0 a1 a2 a3 k
 have ih0:=impl_Near.mono_l k
 unfold impl_Near.f
 repeat' first
   | (with_reducible exact ih0 _ _ _ _ _ _ _ _)
   | (with_reducible exact impl_Apart.mono _ _ _ _ _ _)
   | (with_reducible exact impl_IsCell.mono _ _ _ _ _)
   | (with_reducible exact impl_IsOpen.mono _ _ _ _ _)
   | (with_reducible exact LeO.refl _)
   | (with_reducible exact LeO.none _)
   | (with_reducible refine LeO.ite ?_ ?_)
   | (with_reducible refine LeO.bind ?_ (fun _ => ?_))
   | exact ih0 _ _ _ _ _ _ _ _
   | exact impl_Apart.mono _ _ _ _ _ _
   | exact impl_IsCell.mono _ _ _ _ _
   | exact impl_IsOpen.mono _ _ _ _ _
   | exact LeO.none _
   | refine LeO.ite ?_ ?_
   | refine LeO.bind ?_ (fun _ => ?_)
set_option maxHeartbeats 8000000 in
set_option maxRecDepth 100000 in
theorem impl_Near.calls (k : Nat) (a0_0 : Int) (a0_1 : Int) (A0_2 : Option Addr) (c0_2 : Nat) (l0_2 : List Int) (a1 : Int) (r : List Int) (w : World) (hr0_2 : Kd.C (Kd.int .i64) w A0_2 l0_2.length l0_2) (hc0_2 : l0_2.length ≤ c0_2) (h : impl_Near.f k a0_0 a0_1 l0_2 a1 = some r) :
  Calls Try.prog 127 #[.agg #[.int .i64 a0_0,.int .i64 a0_1,.slice A0_2 l0_2.length c0_2],.int .i64 a1] w fun e w' => ∃ v0_ : Value,e = .returned (v0_) ∧ Kd.R (Kd.int .i64) 3 w' w.heap.size (fun _ => True) v0_ r ∧ Below w.heap.size w w':=by
 have hu51:=Try.underlying51;have HR0_2:=am hr0_2;have HC0_2:=am hc0_2;clear hr0_2 hc0_2;have HB:=am (Below.refl w.heap.size w);have H : ((impl_IsCell.f k a0_0 a0_1 l0_2 a1).bind fun t119 => (if t119 = true then ((some (([wrap64 (a1 - a0_0),wrap64 (a1 - 1),wrap64 (a1 + 1),wrap64 (a1 + a0_0)] : List Int) : List Int)).bind fun y123 => (impl_Near.l0 k a1 (([] : List Int)) y123 (y123.length : Int) 0 a0_0 a0_1 l0_2)) else (some ([] : List Int)))) = some r:=h;clear h;replace H:=bS.mp H;obtain ⟨t119,A30,H⟩:=H;replace H : (if t119 = true then ((some (([wrap64 (a1 - a0_0),wrap64 (a1 - 1),wrap64 (a1 + 1),wrap64 (a1 + a0_0)] : List Int) : List Int)).bind fun y123 => (impl_Near.l0 k a1 (([] : List Int)) y123 (y123.length : Int) 0 a0_0 a0_1 l0_2)) else (some ([] : List Int))) = some r:=H;have A3:=am A30;clear A30
 by_cases c4 : t119 = true
 ·subst c4;have H1 : ((some (([wrap64 (a1 - a0_0),wrap64 (a1 - 1),wrap64 (a1 + 1),wrap64 (a1 + a0_0)] : List Int) : List Int)).bind fun y123 => (impl_Near.l0 k a1 (([] : List Int)) y123 (y123.length : Int) 0 a0_0 a0_1 l0_2)) = some r:=by rw [if_pos rfl] at H;exact H
  clear H;have H:=H1;clear H1;obtain ⟨y120,hy120⟩ : ∃ y_ : List Int,y_ = (([] : List Int)):=⟨_,rfl⟩
  replace H : ((some (([wrap64 (a1 - a0_0),wrap64 (a1 - 1),wrap64 (a1 + 1),wrap64 (a1 + a0_0)] : List Int) : List Int)).bind fun y123 => (impl_Near.l0 k a1 y120 y123 (y123.length : Int) 0 a0_0 a0_1 l0_2)) = some r:=by first | (rw [hy120];with_reducible exact H) | (have H2_:=(Option.bind_some _ _).symm.trans H;rw [hy120];with_reducible exact H2_) | (have H2_:=(Option.bind_some _ _).symm.trans H;with_reducible exact H2_) | with_reducible exact H | (rw [hy120];exact H) | exact H
  have Ny120:=am hy120;clear hy120;obtain ⟨y123,hy123⟩ : ∃ y_ : List Int,y_ = (([wrap64 (a1 - a0_0),wrap64 (a1 - 1),wrap64 (a1 + 1),wrap64 (a1 + a0_0)] : List Int)):=⟨_,rfl⟩
  replace H : (impl_Near.l0 k a1 y120 y123 (y123.length : Int) 0 a0_0 a0_1 l0_2) = some r:=by first | (rw [hy123];with_reducible exact H) | (have H2_:=(Option.bind_some _ _).symm.trans H;rw [hy123];with_reducible exact H2_) | (have H2_:=(Option.bind_some _ _).symm.trans H;with_reducible exact H2_) | with_reducible exact H | (rw [hy123];exact H) | exact H
  have Ny123:=am hy123;clear hy123;have H':=am H;clear H
  go_enter Try.func127,Try.ntmps127
  go_wp2_with (first | ((with_reducible refine gate_dst (N:=2) rfl ?_);refine box_event ?hg (N:=2) ?hd (cs:=#[.int .i64 a0_0,.int .i64 a0_1,.slice A0_2 l0_2.length c0_2]) (t:=51) ?hr ?_;(case hd => rfl);(case hg => rfl);(case hr => exact qq186);intro gb118 hg w5 hbox hb;have BK118:=am (hbox);have GW118:=am ((qq73 : w.heap.size ≤ gb118));have GE118:=am ((qq73 : w.heap.size ≤ gb118));replace HB:=am (below_step qq117 hb);clear hb hbox hg;obtain ⟨hcz6_0,hcz6_1,hcz6_2,hfz6_0,hfz6_1,hfz6_2⟩:=bcl3 BK118.out) | ((with_reducible refine gate_callee (f:=98) rfl ?_);refine goesL_ (some 10) rfl rfl Try.func98 (by kernel_rfl) rfl #[.agg #[.int .i64 a0_0,.int .i64 a0_1,.slice A0_2 l0_2.length c0_2],.int .i64 a1] rfl qq101 ?_;(with_reducible refine (impl_IsCell.calls k a0_0 a0_1 _ _ l0_2 a1 true _ ?side1 ?side2 A3.out).mono ?_);(case side1 => exact qq56);(case side2 => exact qq199);rintro e w7 ⟨rfl,hb⟩;refine ⟨_,rfl,?_⟩;replace BK118:=am (blk_below (g:=gb118) (o:=.cells #[.int .i64 a0_0,.int .i64 a0_1,.slice A0_2 l0_2.length c0_2] 51 (0,0)) qq142 hb);replace HB:=am (below_step qq96 hb);(try clear hb);(try clear hb2);(try clear hk);(try clear hi)) | ((with_reducible refine gate_dst (N:=12) rfl ?_);refine Kd.R_lit (Kd.int .i64) _ 3 ?hg (N:=12) ?hd (xs:=([] : List Int)) (inner:=[]) (ok:=fun _ => True) (okp:=fun _ => True) ?hr ?hp (fun _ hk => hk) trivial (Below.refl _ _) (Nat.le_refl _) (by simp) ?_;(case hd => rfl);(case hg => rfl);(case hr => exact qq186);(case hp => exact qq197);intro v121 w8 ho9 hb hg_ hnew_;clear hg_ hnew_;(first | rw [← Ny120.out] at ho9 | (simp only [Int.reduceToNat] at ho9;rw [← Ny120.out] at ho9));have HO122:=am (Kd.R_lower ho9 (below_size qq96));replace BK118:=am (blk_below (g:=gb118) (o:=.cells #[.int .i64 a0_0,.int .i64 a0_1,.slice A0_2 l0_2.length c0_2] 51 (0,0)) qq142 hb);replace HB:=am (below_step qq96 hb);clear hb ho9;obtain ⟨hcz10_0,hcz10_1,hcz10_2,hfz10_0,hfz10_1,hfz10_2⟩:=bcl3 BK118.out) | ((with_reducible refine gate_dst (N:=25) rfl ?_);refine Kd.R_lit (Kd.int .i64) _ 3 ?hg (N:=25) ?hd (xs:=([wrap64 (a1 - a0_0),wrap64 (a1 - 1),wrap64 (a1 + 1),wrap64 (a1 + a0_0)] : List Int)) (inner:=[.int .i64 (wrap64 (a1 - a0_0)),.int .i64 (wrap64 (a1 - 1)),.int .i64 (wrap64 (a1 + 1)),.int .i64 (wrap64 (a1 + a0_0))]) (ok:=fun _ => True) (okp:=fun _ => True) ?hr ?hp (fun _ hk => hk) trivial (Below.refl _ _) (Nat.le_refl _) (by simp) ?_;(case hd => rfl);(case hg => rfl);(case hr => exact qq186);(case hp => exact (Reps.one (show Kd.M (Kd.int .i64) _ _ _ (wrap64 (a1 - a0_0)) [.int .i64 (wrap64 (a1 - a0_0))] from rfl) (Reps.one (show Kd.M (Kd.int .i64) _ _ _ (wrap64 (a1 - 1)) [.int .i64 (wrap64 (a1 - 1))] from rfl) (Reps.one (show Kd.M (Kd.int .i64) _ _ _ (wrap64 (a1 + 1)) [.int .i64 (wrap64 (a1 + 1))] from rfl) (Reps.one (show Kd.M (Kd.int .i64) _ _ _ (wrap64 (a1 + a0_0)) [.int .i64 (wrap64 (a1 + a0_0))] from rfl) (Reps.none _ _))))));intro v124 w11 ho12 hb hg_ hnew_;clear hg_ hnew_;(first | rw [← Ny123.out] at ho12 | (simp only [Int.reduceToNat] at ho12;rw [← Ny123.out] at ho12));have HO125:=am (Kd.R_lower (Kd.R_new' ho12 (Kd.R_lt qq173)) (below_size qq96));replace HO122:=am (Kd.R_elder' qq173 (Kd.R_base ho12) hb);replace BK118:=am (blk_below (g:=gb118) (o:=.cells #[.int .i64 a0_0,.int .i64 a0_1,.slice A0_2 l0_2.length c0_2] 51 (0,0)) qq142 hb);replace HB:=am (below_step qq96 hb);clear hb ho12;obtain ⟨Ao13,co13,eo13⟩:=Kd.R_slice HO125.out;subst eo13))
  go_loopg [5,27] k (fun kq v5 v27 w' => ∃ (x5_1 : List Int) (x27_1 : Int),v27 = .int .i64 x27_1 ∧ Aside0 (impl_Near.l0 kq a1 x5_1 y123 (y123.length : Int) x27_1 a0_0 a0_1 l0_2 = some r) ∧ Aside0 (kq ≤ k) ∧ Aside0 (Kd.R (Kd.int .i64) 3 w' w.heap.size (fun k_ => some k_ ≠ ((.slice Ao13 y123.length co13) : Value).ownBlock) v5 x5_1) ∧ Aside0 (Kd.R (Kd.int .i64) 3 w' w.heap.size (fun k_ => some k_ ≠ (v5 : Value).ownBlock) (.slice Ao13 y123.length co13) y123) ∧ Aside0 (w'.heap[gb118]? = some (.cells #[.int .i64 a0_0,.int .i64 a0_1,(.slice A0_2 l0_2.length c0_2)] 51 (0,0))) ∧ Aside0 (Below w.heap.size w w'))
  case atStart => exact ⟨(y120),(0),qq185,H',⟨Nat.le_refl _⟩,⟨by (with_reducible repeat (first | apply kA | apply kN | apply kD));exact Kd.R_mono HO122.out (fun _ hk => hk.2)⟩,⟨by (with_reducible repeat (first | apply kA | apply kN | apply kD));exact Kd.R_mono HO125.out (fun _ hk => hk.2)⟩,⟨qq142⟩,⟨qq96⟩⟩
  case round =>
   clear H'
   try clear c1
   try clear p2
   try clear c4
   try clear p6
   try clear c9
   try clear c12
   try clear hcz10_0
   try clear hcz10_1
   try clear hcz10_2
   try clear hcz6_0
   try clear hcz6_1
   try clear hcz6_2
   try clear hfz10_0
   try clear hfz10_1
   try clear hfz10_2
   try clear hfz6_0
   try clear hfz6_1
   try clear hfz6_2
   obtain ⟨x5_1,x27_1,rfl,HA,HK1,HO_5,HO_25,BK118,HB⟩:=hrel
   cases gk with
   | zero => exact absurd HA.out (by simp [impl_Near.l0])
   | succ k1 =>
    have H:=HA.out;clear HA;simp only [impl_Near.l0] at H
    by_cases c14 : x27_1 < (y123.length : Int)
    ·rw [if_pos c14] at H;have c14b0 : decide (x27_1 < (y123.length : Int)) = true:=decide_eq_true c14;clear c14
     by_cases c15 : 0 ≤ x27_1
     ·rw [if_pos c15] at H;have c15b0 : decide (0 ≤ x27_1) = true:=decide_eq_true c15;clear c15
      by_cases c16 : x27_1 < (y123.length : Int)
      ·rw [if_pos c16] at H;have c16b0 : decide (x27_1 < (y123.length : Int)) = true:=decide_eq_true c16;clear c16;replace H:=bS.mp H;obtain ⟨t130,A170,H⟩:=H;replace H : (if t130 = true then ((impl_Apart.f k1 a0_0 a0_1 l0_2 a1 (rd y123 x27_1)).bind fun t131 => (if t131 = 1 then (if x5_1.length < 17592186044416 then (impl_Near.l0 k1 a1 (x5_1 ++ [rd y123 x27_1]) y123 (y123.length : Int) (wrap64 (x27_1 + 1)) a0_0 a0_1 l0_2) else (none)) else (impl_Near.l0 k1 a1 x5_1 y123 (y123.length : Int) (wrap64 (x27_1 + 1)) a0_0 a0_1 l0_2))) else (impl_Near.l0 k1 a1 x5_1 y123 (y123.length : Int) (wrap64 (x27_1 + 1)) a0_0 a0_1 l0_2)) = some r:=H;have A17:=am A170;clear A170
       by_cases c18 : t130 = true
       ·subst c18;have H1 : ((impl_Apart.f k1 a0_0 a0_1 l0_2 a1 (rd y123 x27_1)).bind fun t131 => (if t131 = 1 then (if x5_1.length < 17592186044416 then (impl_Near.l0 k1 a1 (x5_1 ++ [rd y123 x27_1]) y123 (y123.length : Int) (wrap64 (x27_1 + 1)) a0_0 a0_1 l0_2) else (none)) else (impl_Near.l0 k1 a1 x5_1 y123 (y123.length : Int) (wrap64 (x27_1 + 1)) a0_0 a0_1 l0_2))) = some r:=by rw [if_pos rfl] at H;exact H
        clear H;have H:=H1;clear H1;replace H:=bS.mp H;obtain ⟨t131,A190,H⟩:=H;replace H : (if t131 = 1 then (if x5_1.length < 17592186044416 then (impl_Near.l0 k1 a1 (x5_1 ++ [rd y123 x27_1]) y123 (y123.length : Int) (wrap64 (x27_1 + 1)) a0_0 a0_1 l0_2) else (none)) else (impl_Near.l0 k1 a1 x5_1 y123 (y123.length : Int) (wrap64 (x27_1 + 1)) a0_0 a0_1 l0_2)) = some r:=H;have A19:=am A190;clear A190
        by_cases c20 : t131 = 1
        ·rw [if_pos c20] at H;have c20b0 : (t131 == 1) = true:=beq_iff_eq.mpr c20;have c20b1 : (t131 != 1) = false:=bne_eq_false_iff_eq.mpr c20;clear c20
         by_cases c21 : x5_1.length < 17592186044416
         ·rw [if_pos c21] at H;have LMc21:=am c21;clear c21;obtain ⟨y132,hy132⟩ : ∃ y_ : List Int,y_ = (x5_1 ++ [rd y123 x27_1]):=⟨_,rfl⟩
          replace H : (impl_Near.l0 k1 a1 y132 y123 (y123.length : Int) (wrap64 (x27_1 + 1)) a0_0 a0_1 l0_2) = some r:=by first | (rw [hy132];with_reducible exact H) | (have H2_:=(Option.bind_some _ _).symm.trans H;rw [hy132];with_reducible exact H2_) | (have H2_:=(Option.bind_some _ _).symm.trans H;with_reducible exact H2_) | with_reducible exact H | (rw [hy132];exact H) | exact H
          have Ny132:=am hy132;clear hy132;have H':=am H;clear H;have p129 : 0 ≤ (x27_1 : Int):=odt qq183;have q129 : x27_1 < (y123.length : Int):=odt qq183;obtain ⟨ad129,e129,hx129_0⟩:=Kd.at_int (Kd.R_reads' HO_25.out).2.2 x27_1 p129 q129
          cases e129
          replace p129:=eq_true p129;replace q129:=eq_true q129;obtain ⟨hcz22_0,hcz22_1,hcz22_2,hfz22_0,hfz22_1,hfz22_2⟩:=bcl3 BK118.out;go_wp2_with (first | ((with_reducible refine gate_callee (f:=49) rfl ?_);refine goesL_ (some 33) rfl rfl Try.func49 (by kernel_rfl) rfl #[.agg #[.int .i64 a0_0,.int .i64 a0_1,.slice A0_2 l0_2.length c0_2],.int .i64 (rd y123 x27_1)] rfl qq101 ?_;(with_reducible refine (impl_IsOpen.calls k1 a0_0 a0_1 _ _ l0_2 (rd y123 x27_1) true _ ?side1 ?side2 A17.out).mono ?_);(case side1 => exact qq56);(case side2 => exact qq199);rintro e w23 ⟨rfl,hb⟩;refine ⟨_,rfl,?_⟩;replace HO_5:=am (Kd.R_below qq178 hb);replace HO_25:=am (Kd.R_below qq156 hb);replace BK118:=am (blk_below (g:=gb118) (o:=.cells #[.int .i64 a0_0,.int .i64 a0_1,.slice A0_2 l0_2.length c0_2] 51 (0,0)) qq142 hb);replace HB:=am (below_step qq96 hb);(try clear hb);(try clear hb2);(try clear hk);(try clear hi);obtain ⟨hcz24_0,hcz24_1,hcz24_2,hfz24_0,hfz24_1,hfz24_2⟩:=bcl3 BK118.out) | (go_at_call 48;(with_reducible refine (impl_Apart.calls k1 a0_0 a0_1 _ _ l0_2 a1 (rd y123 x27_1) t131 _ ?side1 ?side2 A19.out).mono ?_);(case side1 => exact qq56);(case side2 => exact qq199);rintro e w25 ⟨rfl,hb⟩;replace HO_5:=am (Kd.R_below qq178 hb);replace HO_25:=am (Kd.R_below qq156 hb);replace BK118:=am (blk_below (g:=gb118) (o:=.cells #[.int .i64 a0_0,.int .i64 a0_1,.slice A0_2 l0_2.length c0_2] 51 (0,0)) qq142 hb);replace HB:=am (below_step qq96 hb);(try clear hb);(try clear hb2);(try clear hk);(try clear hi)) | ((with_reducible refine gate_builtin (b:=.append) (xs:=#[.tmp 41,.tmp 43]) rfl ?_);at_builtin;refine Kd.R_append (Kd.int .i64) (w0:=w) w.heap.size rfl (.tmp 41) (.tmp 43) 49 3 (.int .i64 0) 8 rfl Try.underlying49 info3 rfl (by decide) (by omega) u5 x5_1 (rd y123 x27_1) [.int .i64 (rd y123 x27_1)] (fun k_ => some k_ ≠ (.slice (some ad129) y123.length co13 : Value).ownBlock) (fun _ => False) rfl rfl ?aP (fun _ hk => hk.elim) ?aF ?aO ?aB ?aS ?aL ?_;(case aP => exact rfl);(case aB => exact qq96);(case aF => exact (fun k_ hk => Kd.fresh' (Kd.R_lt qq156) k_ hk));(case aO => exact qq153);(case aS => exact (below_size qq96));(case aL => have:=LMc21.out;omega);intro v133 w26 ho hb hg hat;rw [← Ny132.out] at ho;replace HO_25:=am (Kd.R_after (ok:=(fun _ => True)) (by (with_reducible repeat (first | apply kA | apply kN | apply kD));exact Kd.R_mono HO_25.out (fun _ hk => ⟨trivial,hk⟩)) hg hat);replace BK118:=am (blk_grown (g:=gb118) (o:=.cells #[.int .i64 a0_0,.int .i64 a0_1,.slice A0_2 l0_2.length c0_2] 51 (0,0)) qq142 hg (Kd.R_ne HO_5.out BK118.out (by decide)));replace HB:=am (hb);have HO134:=am (ho);clear HO_5;clear ho hb hg hat))
          go_roundg k1
          case measure => have:=HK1.out;omega
          case rel => exact ⟨(y132),(wrap64 (x27_1 + 1)),qq185,H',⟨qq198⟩,⟨by (with_reducible repeat (first | apply kA | apply kN | apply kD));exact HO134.out⟩,⟨by (with_reducible repeat (first | apply kA | apply kN | apply kD));exact Kd.R_mono HO_25.out (fun _ hk => hk.2)⟩,⟨qq142⟩,⟨qq96⟩⟩
         ·rw [if_neg c21] at H;exact absurd H (by simp)
        ·rw [if_neg c20] at H;have c20b0 : (t131 == 1) = false:=beq_eq_false_iff_ne.mpr c20;have c20b1 : (t131 != 1) = true:=bne_iff_ne.mpr c20;have H':=am H;clear H;have p129 : 0 ≤ (x27_1 : Int):=odt qq183;have q129 : x27_1 < (y123.length : Int):=odt qq183;obtain ⟨ad129,e129,hx129_0⟩:=Kd.at_int (Kd.R_reads' HO_25.out).2.2 x27_1 p129 q129
         cases e129
         replace p129:=eq_true p129;replace q129:=eq_true q129;obtain ⟨hcz27_0,hcz27_1,hcz27_2,hfz27_0,hfz27_1,hfz27_2⟩:=bcl3 BK118.out;go_wp2_with (first | ((with_reducible refine gate_callee (f:=49) rfl ?_);refine goesL_ (some 33) rfl rfl Try.func49 (by kernel_rfl) rfl #[.agg #[.int .i64 a0_0,.int .i64 a0_1,.slice A0_2 l0_2.length c0_2],.int .i64 (rd y123 x27_1)] rfl qq101 ?_;(with_reducible refine (impl_IsOpen.calls k1 a0_0 a0_1 _ _ l0_2 (rd y123 x27_1) true _ ?side1 ?side2 A17.out).mono ?_);(case side1 => exact qq56);(case side2 => exact qq199);rintro e w28 ⟨rfl,hb⟩;refine ⟨_,rfl,?_⟩;replace HO_5:=am (Kd.R_below qq178 hb);replace HO_25:=am (Kd.R_below qq156 hb);replace BK118:=am (blk_below (g:=gb118) (o:=.cells #[.int .i64 a0_0,.int .i64 a0_1,.slice A0_2 l0_2.length c0_2] 51 (0,0)) qq142 hb);replace HB:=am (below_step qq96 hb);(try clear hb);(try clear hb2);(try clear hk);(try clear hi);obtain ⟨hcz29_0,hcz29_1,hcz29_2,hfz29_0,hfz29_1,hfz29_2⟩:=bcl3 BK118.out) | (go_at_call 48;(with_reducible refine (impl_Apart.calls k1 a0_0 a0_1 _ _ l0_2 a1 (rd y123 x27_1) t131 _ ?side1 ?side2 A19.out).mono ?_);(case side1 => exact qq56);(case side2 => exact qq199);rintro e w30 ⟨rfl,hb⟩;replace HO_5:=am (Kd.R_below qq178 hb);replace HO_25:=am (Kd.R_below qq156 hb);replace BK118:=am (blk_below (g:=gb118) (o:=.cells #[.int .i64 a0_0,.int .i64 a0_1,.slice A0_2 l0_2.length c0_2] 51 (0,0)) qq142 hb);replace HB:=am (below_step qq96 hb);(try clear hb);(try clear hb2);(try clear hk);(try clear hi)))
         go_roundg k1
         case measure => have:=HK1.out;omega
         case rel => exact ⟨(x5_1),(wrap64 (x27_1 + 1)),qq185,H',⟨qq198⟩,⟨qq178⟩,⟨qq156⟩,⟨qq142⟩,⟨qq96⟩⟩
       ·replace c18:=Bool.eq_false_iff.mpr c18;subst c18;have H1 : (impl_Near.l0 k1 a1 x5_1 y123 (y123.length : Int) (wrap64 (x27_1 + 1)) a0_0 a0_1 l0_2) = some r:=by rw [if_neg (show ¬ (false = true) by decide)] at H;exact H
        clear H;have H:=H1;clear H1;have H':=am H;clear H;have p129 : 0 ≤ (x27_1 : Int):=odt qq183;have q129 : x27_1 < (y123.length : Int):=odt qq183;obtain ⟨ad129,e129,hx129_0⟩:=Kd.at_int (Kd.R_reads' HO_25.out).2.2 x27_1 p129 q129
        cases e129
        replace p129:=eq_true p129;replace q129:=eq_true q129;obtain ⟨hcz31_0,hcz31_1,hcz31_2,hfz31_0,hfz31_1,hfz31_2⟩:=bcl3 BK118.out;go_wp2_with (first | ((with_reducible refine gate_callee (f:=49) rfl ?_);refine goesL_ (some 33) rfl rfl Try.func49 (by kernel_rfl) rfl #[.agg #[.int .i64 a0_0,.int .i64 a0_1,.slice A0_2 l0_2.length c0_2],.int .i64 (rd y123 x27_1)] rfl qq101 ?_;(with_reducible refine (impl_IsOpen.calls k1 a0_0 a0_1 _ _ l0_2 (rd y123 x27_1) false _ ?side1 ?side2 A17.out).mono ?_);(case side1 => exact qq56);(case side2 => exact qq199);rintro e w32 ⟨rfl,hb⟩;refine ⟨_,rfl,?_⟩;replace HO_5:=am (Kd.R_below qq178 hb);replace HO_25:=am (Kd.R_below qq156 hb);replace BK118:=am (blk_below (g:=gb118) (o:=.cells #[.int .i64 a0_0,.int .i64 a0_1,.slice A0_2 l0_2.length c0_2] 51 (0,0)) qq142 hb);replace HB:=am (below_step qq96 hb);(try clear hb);(try clear hb2);(try clear hk);(try clear hi)))
        go_roundg k1
        case measure => have:=HK1.out;omega
        case rel => exact ⟨(x5_1),(wrap64 (x27_1 + 1)),qq185,H',⟨qq198⟩,⟨qq178⟩,⟨qq156⟩,⟨qq142⟩,⟨qq96⟩⟩
      ·rw [if_neg c16] at H;exact absurd H (by simp)
     ·rw [if_neg c15] at H;exact absurd H (by simp)
    ·rw [if_neg c14] at H;have c14b0 : decide (x27_1 < (y123.length : Int)) = false:=decide_eq_false c14;clear c14;replace H:=bS.mp H;obtain ⟨t126,A330,H⟩:=H;replace H : (some t126) = some r:=H;have A33:=am A330;clear A330;obtain rfl:=Option.some.inj H;obtain ⟨Ao34,co34,eo34⟩:=Kd.R_slice HO_5.out;subst eo34;go_wp2_with (first | ((with_reducible refine gate_callee (f:=145) rfl ?_);refine goesL_ (some 47) rfl rfl Try.func145 (by kernel_rfl) rfl #[.slice Ao34 x5_1.length co34] rfl qq101 ?_;(with_reducible refine (slices_Compact_int_int.calls (fun k_ => some k_ = (.slice Ao34 x5_1.length co34 : Value).ownBlock) (.slice Ao34 x5_1.length co34) x5_1 t126 w _ ?side1 ?side2 A33.out).mono ?_);(case side1 => exact qq96);(case side2 => exact Kd.R_tight rfl HO_5.out);rintro e w35 ⟨v127,rfl,ho0,hb,hkp⟩;refine ⟨_,rfl,?_⟩;replace BK118:=am (blk_kept qq142 hkp (fun hs_ => (fun e_ => (Kd.R_ne HO_5.out BK118.out (by decide)) e_) hs_));have HO128:=am (Kd.R_mono (ok':=fun k_ => some k_ ≠ (.slice Ao13 y123.length co13 : Value).ownBlock) ho0 (fun k_ hk_ => Or.elim hk_ (fun hs_ => fun e_ => (((HO_25.out).1 k_ e_.symm)) hs_) (fun hn_ => (Kd.fresh' (Kd.R_lt qq156) k_ hn_))));replace HO_25:=am (Kd.R_mono (ok':=fun k_ => some k_ ≠ (v127 : Value).ownBlock) (Kd.R_keptB (HO_25.out) hkp (fun k_ hk_ hs_ => (hk_) hs_)) (fun k_ hk_ => fun e_ => Or.elim (ho0.1 k_ e_.symm) (fun hs_ => hk_.2.1 hs_) (fun hn_ => Nat.not_le.2 hk_.2.2 hn_)));replace HB:=am (hb);clear HO_5;(try clear hb);(try clear hkp);(try clear ho0)))
     go_ret
     exact ⟨_,qq147,by (with_reducible repeat (first | apply kA | apply kN | apply kD));exact Kd.R_mono HO128.out (fun _ hk => trivial),qq96⟩
 ·replace c4:=Bool.eq_false_iff.mpr c4;subst c4;have H1 : (some ([] : List Int)) = some r:=by rw [if_neg (show ¬ (false = true) by decide)] at H;exact H
  clear H;have H:=H1;clear H1;obtain rfl:=Option.some.inj H
  go_enter Try.func127,Try.ntmps127
  go_wp2_with (first | ((with_reducible refine gate_dst (N:=2) rfl ?_);refine box_event ?hg (N:=2) ?hd (cs:=#[.int .i64 a0_0,.int .i64 a0_1,.slice A0_2 l0_2.length c0_2]) (t:=51) ?hr ?_;(case hd => rfl);(case hg => rfl);(case hr => exact qq186);intro gb118 hg w36 hbox hb;have BK118:=am (hbox);have GW118:=am ((qq73 : w.heap.size ≤ gb118));have GE118:=am ((qq73 : w.heap.size ≤ gb118));replace HB:=am (below_step qq117 hb);clear hb hbox hg;obtain ⟨hcz37_0,hcz37_1,hcz37_2,hfz37_0,hfz37_1,hfz37_2⟩:=bcl3 BK118.out) | ((with_reducible refine gate_callee (f:=98) rfl ?_);refine goesL_ (some 10) rfl rfl Try.func98 (by kernel_rfl) rfl #[.agg #[.int .i64 a0_0,.int .i64 a0_1,.slice A0_2 l0_2.length c0_2],.int .i64 a1] rfl qq101 ?_;(with_reducible refine (impl_IsCell.calls k a0_0 a0_1 _ _ l0_2 a1 false _ ?side1 ?side2 A3.out).mono ?_);(case side1 => exact qq56);(case side2 => exact qq199);rintro e w38 ⟨rfl,hb⟩;refine ⟨_,rfl,?_⟩;replace BK118:=am (blk_below (g:=gb118) (o:=.cells #[.int .i64 a0_0,.int .i64 a0_1,.slice A0_2 l0_2.length c0_2] 51 (0,0)) qq142 hb);replace HB:=am (below_step qq96 hb);(try clear hb);(try clear hb2);(try clear hk);(try clear hi)))
  go_ret
  exact ⟨_,qq147,qq71,qq96⟩

end Go.Proofs.Ytcbkknpmeknppaa.PFnExactPlanDays
