/- Contracts of functions that the law FnExactPlanDays reaches, for its row: lines that the kit's printer wrote for this claim, set shorter by a program of this session (own.py), and what fell in Lean proved anew. Lean checks them. -/
import Derived.Test.YtcbkknpmeknppaaSFnExactPlanDaysx0
import Derived.Test.YtcbkknpmeknppaaSFnExactPlanDaysx7
import Derived.Test.YtcbkknpmeknppaaSFnExactPlanDaysx8
namespace Go.Proofs.Ytcbkknpmeknppaa.PFnExactPlanDays
open Go.RowKit Go.Proofs.YtcbkknpmeknppaaW.PrintWords Go.Proofs.YtcbkknpmeknppaaW.PrintLast Go.Proofs.YtcbkknpmeknppaaW.PrintMore
attribute [local go_sem] max2_int min2_int max_two min_two max_three min_three max_four min_four   -- for this text's walks alone
set_option linter.unusedVariables false
set_option linter.unusedSimpArgs false

/-! ### spec_l5From: function 136 -/
mutual
def spec_l5From.l0 : Nat → Int → List Int → Int → Int → Int → List Int → Option (List Int)
 | 0,_,_,_,_,_,_ => none
 | k + 1,x1,x5,x6,x298000,x298001,x298002 => if x6 < (x298002.length : Int) then (if x5.length < 17592186044416 then (spec_l5From.l0 k x1 (x5 ++ [(-1)]) (wrap64 (x6 + 1)) x298000 x298001 x298002) else (none)) else (if 0 ≤ x1 then (if x1 < (x5.length : Int) then (spec_l5From.l1 k (x5.set (x1 : Int).toNat 0) (([x1] : List Int)) 0 x298000 x298001 x298002) else (none)) else (none))
def spec_l5From.l1 : Nat → List Int → List Int → Int → Int → Int → List Int → Option (List Int)
 | 0,_,_,_,_,_,_ => none
 | k + 1,x5,x7,x8,x298000,x298001,x298002 => if x8 < (x7.length : Int) then (if 0 ≤ x8 then ((spec_l4Near.f k x298000 x298001 x298002 (rd x7 x8)).bind fun t309 => (spec_l5From.l2 k x5 x7 x8 t309 0 x298000 x298001 x298002)) else (none)) else (some x5)
def spec_l5From.l2 : Nat → List Int → List Int → Int → List Int → Int → Int → Int → List Int → Option (List Int)
 | 0,_,_,_,_,_,_,_,_ => none
 | k + 1,x5,x7,x8,x9,x10,x298000,x298001,x298002 => if x10 < (x9.length : Int) then (if 0 ≤ x10 then (if 0 ≤ (rd x9 x10) then (if (rd x9 x10) < (x5.length : Int) then (if (rd x5 (rd x9 x10)) < 0 then (if 0 ≤ x8 then (if x8 < (x7.length : Int) then (if 0 ≤ (rd x7 x8) then (if (rd x7 x8) < (x5.length : Int) then (if x7.length < 17592186044416 then (spec_l5From.l2 k (x5.set ((rd x9 x10) : Int).toNat (wrap64 ((rd x5 (rd x7 x8)) + 1))) (x7 ++ [rd x9 x10]) x8 x9 (wrap64 (x10 + 1)) x298000 x298001 x298002) else (none)) else (none)) else (none)) else (none)) else (none)) else (spec_l5From.l2 k x5 x7 x8 x9 (wrap64 (x10 + 1)) x298000 x298001 x298002)) else (none)) else (none)) else (none)) else (spec_l5From.l1 k x5 x7 (wrap64 (x8 + 1)) x298000 x298001 x298002)
end
def spec_l5From.f (k : Nat) (a0_0 : Int) (a0_1 : Int) (l0_2 : List Int) (a1 : Int) : Option (List Int) := spec_l5From.l0 k a1 (([] : List Int)) 0 a0_0 a0_1 l0_2
theorem spec_l5From.mono_l : ∀ k, (∀ y0 y1 y2 y3 y4 y5, LeO (spec_l5From.l0 k y0 y1 y2 y3 y4 y5) (spec_l5From.l0 (k + 1) y0 y1 y2 y3 y4 y5)) ∧ (∀ y0 y1 y2 y3 y4 y5, LeO (spec_l5From.l1 k y0 y1 y2 y3 y4 y5) (spec_l5From.l1 (k + 1) y0 y1 y2 y3 y4 y5)) ∧ (∀ y0 y1 y2 y3 y4 y5 y6 y7, LeO (spec_l5From.l2 k y0 y1 y2 y3 y4 y5 y6 y7) (spec_l5From.l2 (k + 1) y0 y1 y2 y3 y4 y5 y6 y7))
 | 0 => ⟨fun _ _ _ _ _ _ r h => by simp [spec_l5From.l0] at h,fun _ _ _ _ _ _ r h => by simp [spec_l5From.l1] at h,fun _ _ _ _ _ _ _ _ r h => by simp [spec_l5From.l2] at h⟩
 | k + 1 => by
  obtain ⟨ih0,ih1,ih2⟩:=spec_l5From.mono_l k
  refine ⟨?_,?_,?_⟩
  ·intro y0 y1 y2 y3 y4 y5
   unfold spec_l5From.l0
   repeat' first
   | (with_reducible exact ih0 _ _ _ _ _ _)
   | (with_reducible exact ih1 _ _ _ _ _ _)
   | (with_reducible exact ih2 _ _ _ _ _ _ _ _)
   | (with_reducible exact spec_l4Near.mono _ _ _ _ _)
   | (with_reducible exact LeO.refl _)
   | (with_reducible exact LeO.none _)
   | (with_reducible refine LeO.ite ?_ ?_)
   | (with_reducible refine LeO.bind ?_ (fun _ => ?_))
   | exact ih0 _ _ _ _ _ _
   | exact ih1 _ _ _ _ _ _
   | exact ih2 _ _ _ _ _ _ _ _
   | exact spec_l4Near.mono _ _ _ _ _
   | exact LeO.none _
   | refine LeO.ite ?_ ?_
   | refine LeO.bind ?_ (fun _ => ?_)
  ·intro y0 y1 y2 y3 y4 y5
   unfold spec_l5From.l1
   repeat' first
   | (with_reducible exact ih0 _ _ _ _ _ _)
   | (with_reducible exact ih1 _ _ _ _ _ _)
   | (with_reducible exact ih2 _ _ _ _ _ _ _ _)
   | (with_reducible exact spec_l4Near.mono _ _ _ _ _)
   | (with_reducible exact LeO.refl _)
   | (with_reducible exact LeO.none _)
   | (with_reducible refine LeO.ite ?_ ?_)
   | (with_reducible refine LeO.bind ?_ (fun _ => ?_))
   | exact ih0 _ _ _ _ _ _
   | exact ih1 _ _ _ _ _ _
   | exact ih2 _ _ _ _ _ _ _ _
   | exact spec_l4Near.mono _ _ _ _ _
   | exact LeO.none _
   | refine LeO.ite ?_ ?_
   | refine LeO.bind ?_ (fun _ => ?_)
  ·intro y0 y1 y2 y3 y4 y5 y6 y7
   unfold spec_l5From.l2
   repeat' first
   | (with_reducible exact ih0 _ _ _ _ _ _)
   | (with_reducible exact ih1 _ _ _ _ _ _)
   | (with_reducible exact ih2 _ _ _ _ _ _ _ _)
   | (with_reducible exact spec_l4Near.mono _ _ _ _ _)
   | (with_reducible exact LeO.refl _)
   | (with_reducible exact LeO.none _)
   | (with_reducible refine LeO.ite ?_ ?_)
   | (with_reducible refine LeO.bind ?_ (fun _ => ?_))
   | exact ih0 _ _ _ _ _ _
   | exact ih1 _ _ _ _ _ _
   | exact ih2 _ _ _ _ _ _ _ _
   | exact spec_l4Near.mono _ _ _ _ _
   | exact LeO.none _
   | refine LeO.ite ?_ ?_
   | refine LeO.bind ?_ (fun _ => ?_)
theorem spec_l5From.mono : ∀ a0 a1 a2 a3 k, LeO (spec_l5From.f k a0 a1 a2 a3) (spec_l5From.f (k + 1) a0 a1 a2 a3) := by
 intro a0 a1 a2 a3 k
 obtain ⟨ih0,ih1,ih2⟩:=spec_l5From.mono_l k
 unfold spec_l5From.f
 repeat' first
   | (with_reducible exact ih0 _ _ _ _ _ _)
   | (with_reducible exact ih1 _ _ _ _ _ _)
   | (with_reducible exact ih2 _ _ _ _ _ _ _ _)
   | (with_reducible exact spec_l4Near.mono _ _ _ _ _)
   | (with_reducible exact LeO.refl _)
   | (with_reducible exact LeO.none _)
   | (with_reducible refine LeO.ite ?_ ?_)
   | (with_reducible refine LeO.bind ?_ (fun _ => ?_))
   | exact ih0 _ _ _ _ _ _
   | exact ih1 _ _ _ _ _ _
   | exact ih2 _ _ _ _ _ _ _ _
   | exact spec_l4Near.mono _ _ _ _ _
   | exact LeO.none _
   | refine LeO.ite ?_ ?_
   | refine LeO.bind ?_ (fun _ => ?_)
def spec_l5From.T16 : Bool × List (List Nat × List Nat) := (true, [([], []), ([], []), ([], []), ([1, 2], [1, 2]), ([3], [3]), ([], []), ([], []), ([], []), ([6, 7], [6, 7]), ([8], [8]), ([5, 9], [5, 9]), ([10], [10]), ([11], [11]), ([0, 4, 0, 1, 2, 3, 4, 5, 6, 7, 8, 9, 10, 11, 12], [0, 4]), ([13, 12, 0, 1, 2, 3, 4, 5, 6, 7, 8, 9, 10, 11, 12], [12, 13])])
def spec_l5From.B16 : List Nat := [0, 0, 0, 6, 14, 0, 0, 0, 192, 448, 992, 2016, 4064, 8191, 16383]
theorem spec_l5From.tab16 : rtab .any (opsOf Try.f136 16) = spec_l5From.T16 := by kernel_rfl
theorem spec_l5From.bits16 : waitsOk spec_l5From.T16.2 spec_l5From.B16 = true := by kernel_rfl
set_option maxHeartbeats 8000000 in
set_option maxRecDepth 100000 in
theorem spec_l5From.calls (k : Nat) (a0_0 : Int) (a0_1 : Int) (A0_2 : Option Addr) (c0_2 : Nat) (l0_2 : List Int) (a1 : Int) (r : List Int) (w : World) (hr0_2 : Kd.C (Kd.int .i64) w A0_2 l0_2.length l0_2) (hc0_2 : l0_2.length ≤ c0_2) (h : spec_l5From.f k a0_0 a0_1 l0_2 a1 = some r) :
  Calls Try.prog 136 #[.agg #[.int .i64 a0_0,.int .i64 a0_1,.slice A0_2 l0_2.length c0_2],.int .i64 a1] w fun e w' => ∃ v0_ : Value,e = .returned (v0_) ∧ Kd.R (Kd.int .i64) 3 w' w.heap.size (fun _ => True) v0_ r ∧ Below w.heap.size w w':=by
 have hu51:=Try.underlying51;have HR0_2:=am hr0_2;have HC0_2:=am hc0_2;clear hr0_2 hc0_2;have HB:=am (Below.refl w.heap.size w);have H : (spec_l5From.l0 k a1 (([] : List Int)) 0 a0_0 a0_1 l0_2) = some r:=h;clear h;obtain ⟨y298,hy298⟩ : ∃ y_ : List Int,y_ = (([] : List Int)):=⟨_,rfl⟩
 replace H : (spec_l5From.l0 k a1 y298 0 a0_0 a0_1 l0_2) = some r:=by first | (rw [hy298];with_reducible exact H) | (have H2_:=(Option.bind_some _ _).symm.trans H;rw [hy298];with_reducible exact H2_) | (have H2_:=(Option.bind_some _ _).symm.trans H;with_reducible exact H2_) | with_reducible exact H | (rw [hy298];exact H) | exact H
 have Ny298:=am hy298;clear hy298;have H':=am H;clear H
 go_enter Try.func136,Try.ntmps136
 go_wp2_with (first | ((with_reducible refine gate_dst (N:=2) rfl ?_);refine box_event ?hg (N:=2) ?hd (cs:=#[.int .i64 a0_0,.int .i64 a0_1,.slice A0_2 l0_2.length c0_2]) (t:=51) ?hr ?_;(case hd => rfl);(case hg => rfl);(case hr => exact qq186);intro gb297 hg w3 hbox hb;have BK297:=am (hbox);have GW297:=am ((qq73 : w.heap.size ≤ gb297));have GE297:=am ((qq73 : w.heap.size ≤ gb297));replace HB:=am (below_step qq117 hb);clear hb hbox hg) | ((with_reducible refine gate_dst (N:=11) rfl ?_);refine Kd.R_lit (Kd.int .i64) _ 3 ?hg (N:=11) ?hd (xs:=([] : List Int)) (inner:=[]) (ok:=fun _ => True) (okp:=fun _ => True) ?hr ?hp (fun _ hk => hk) trivial (Below.refl _ _) (Nat.le_refl _) (by simp) ?_;(case hd => rfl);(case hg => rfl);(case hr => exact qq186);(case hp => exact qq197);intro v299 w4 ho5 hb hg_ hnew_;clear hg_ hnew_;(first | rw [← Ny298.out] at ho5 | (simp only [Int.reduceToNat] at ho5;rw [← Ny298.out] at ho5));have HO300:=am (Kd.R_lower ho5 (below_size qq80));replace BK297:=am (blk_below (g:=gb297) (o:=.cells #[.int .i64 a0_0,.int .i64 a0_1,.slice A0_2 l0_2.length c0_2] 51 (0,0)) qq125 hb);replace HB:=am (below_step qq80 hb);clear hb ho5))
 go_loopg [5,6] k (fun kq v5 v6 w' => ∃ (x5_1 : List Int) (x6_1 : Int),v6 = .int .i64 x6_1 ∧ Aside0 (spec_l5From.l0 kq a1 x5_1 x6_1 a0_0 a0_1 l0_2 = some r) ∧ Aside0 (kq ≤ k) ∧ Aside0 (Kd.R (Kd.int .i64) 3 w' w.heap.size (fun _ => True) v5 x5_1) ∧ Aside0 (w'.heap[gb297]? = some (.cells #[.int .i64 a0_0,.int .i64 a0_1,(.slice A0_2 l0_2.length c0_2)] 51 (0,0))) ∧ Aside0 (Below w.heap.size w w'))
 case atStart => exact ⟨(y298),(0),qq185,H',⟨Nat.le_refl _⟩,⟨by (with_reducible repeat (first | apply kA | apply kN | apply kD));exact HO300.out⟩,⟨qq125⟩,⟨qq80⟩⟩
 case round =>
  clear H'
  try clear c1
  try clear p2
  obtain ⟨x5_1,x6_1,rfl,HA,HK1,HO_5,BK297,HB⟩:=hrel
  cases gk with
  | zero => exact absurd HA.out (by simp [spec_l5From.l0])
  | succ k1 =>
   have H:=HA.out;clear HA;simp only [spec_l5From.l0] at H
   by_cases c6 : x6_1 < (l0_2.length : Int)
   ·rw [if_pos c6] at H;have c6b0 : decide (x6_1 < (l0_2.length : Int)) = true:=decide_eq_true c6;clear c6
    by_cases c7 : x5_1.length < 17592186044416
    ·rw [if_pos c7] at H;have LMc7:=am c7;clear c7;obtain ⟨y301,hy301⟩ : ∃ y_ : List Int,y_ = (x5_1 ++ [(-1)]):=⟨_,rfl⟩
     replace H : (spec_l5From.l0 k1 a1 y301 (wrap64 (x6_1 + 1)) a0_0 a0_1 l0_2) = some r:=by first | (rw [hy301];with_reducible exact H) | (have H2_:=(Option.bind_some _ _).symm.trans H;rw [hy301];with_reducible exact H2_) | (have H2_:=(Option.bind_some _ _).symm.trans H;with_reducible exact H2_) | with_reducible exact H | (rw [hy301];exact H) | exact H
     have Ny301:=am hy301;clear hy301;have H':=am H;clear H;obtain ⟨hcz8_0,hcz8_1,hcz8_2,hfz8_0,hfz8_1,hfz8_2⟩:=bcl3 BK297.out;go_wp2_with (first | ((with_reducible refine gate_builtin (b:=.append) (xs:=#[.tmp 19,.tmp 20]) rfl ?_);at_builtin;refine Kd.R_append (Kd.int .i64) (w0:=w) w.heap.size rfl (.tmp 19) (.tmp 20) 49 3 (.int .i64 0) 8 rfl Try.underlying49 info3 rfl (by decide) (by omega) u5 x5_1 (-1) [.int .i64 (-1)] (fun _ => True) (fun _ => False) rfl rfl ?aP (fun _ hk => hk.elim) ?aF ?aO ?aB ?aS ?aL ?_;(case aP => exact rfl);(case aB => exact qq80);(case aF => exact qq195);(case aO => exact qq153);(case aS => exact (below_size qq80));(case aL => have:=LMc7.out;omega);intro v302 w9 ho hb hg hat;rw [← Ny301.out] at ho;replace BK297:=am (blk_grown (g:=gb297) (o:=.cells #[.int .i64 a0_0,.int .i64 a0_1,.slice A0_2 l0_2.length c0_2] 51 (0,0)) qq125 hg (Kd.R_ne HO_5.out BK297.out (by decide)));replace HB:=am (hb);have HO303:=am (ho);clear HO_5;clear ho hb hg hat))
     go_roundg k1
     case measure => have:=HK1.out;omega
     case rel => exact ⟨(y301),(wrap64 (x6_1 + 1)),qq185,H',⟨qq198⟩,⟨by (with_reducible repeat (first | apply kA | apply kN | apply kD));exact HO303.out⟩,⟨qq125⟩,⟨qq80⟩⟩
    ·rw [if_neg c7] at H;exact absurd H (by simp)
   ·rw [if_neg c6] at H;have c6b0 : decide (x6_1 < (l0_2.length : Int)) = false:=decide_eq_false c6;clear c6
    by_cases c10 : 0 ≤ a1
    ·rw [if_pos c10] at H;have c10b0 : decide (0 ≤ a1) = true:=decide_eq_true c10;clear c10
     by_cases c11 : a1 < (x5_1.length : Int)
     ·rw [if_pos c11] at H;have c11b0 : decide (a1 < (x5_1.length : Int)) = true:=decide_eq_true c11;clear c11;obtain ⟨y304,hy304⟩ : ∃ y_ : List Int,y_ = (x5_1.set (a1 : Int).toNat 0):=⟨_,rfl⟩
      replace H : (spec_l5From.l1 k1 y304 (([a1] : List Int)) 0 a0_0 a0_1 l0_2) = some r:=by first | (rw [hy304];with_reducible exact H) | (have H2_:=(Option.bind_some _ _).symm.trans H;rw [hy304];with_reducible exact H2_) | (have H2_:=(Option.bind_some _ _).symm.trans H;with_reducible exact H2_) | with_reducible exact H | (rw [hy304];exact H) | exact H
      have Ny304:=am hy304;clear hy304;obtain ⟨y305,hy305⟩ : ∃ y_ : List Int,y_ = (([a1] : List Int)):=⟨_,rfl⟩
      replace H : (spec_l5From.l1 k1 y304 y305 0 a0_0 a0_1 l0_2) = some r:=by first | (rw [hy305];with_reducible exact H) | (have H2_:=(Option.bind_some _ _).symm.trans H;rw [hy305];with_reducible exact H2_) | (have H2_:=(Option.bind_some _ _).symm.trans H;with_reducible exact H2_) | with_reducible exact H | (rw [hy305];exact H) | exact H
      have Ny305:=am hy305;clear hy305;have H':=am H;clear H;obtain ⟨hcz13_0,hcz13_1,hcz13_2,hfz13_0,hfz13_1,hfz13_2⟩:=bcl3 BK297.out;have p12 : 0 ≤ (a1 : Int):=odt qq183;have q12 : (a1 : Int) < ((x5_1.length : Int) : Int):=odt qq183;obtain ⟨go12,co12,eo12,gb12,gl12,cl12,HG12⟩:=Kd.R_form HO_5.out (by omega);(first | cases eo12 | (injection eo12 with ea_ en_ ec_;(first | subst ea_ | (injection ea_ with ea_;subst ea_));subst ec_;clear en_));have GB12:=am gb12;have GG12:=am HG12;clear gb12 gl12 HG12;obtain ⟨hx12_0,hf12_0⟩:=Kd.R_celln 0 HO_5.out (a1 : Int) p12 q12;replace p12:=eq_true p12;replace q12:=eq_true q12;have HP14:=Kd.R_putg HO_5.out (a1 : Int) 0;go_wp2_with (first | ((with_reducible refine gate_store (t:=3) (p:=24) rfl ?_);refine store_event (t:=3) (p:=24) (v:=?vo_w15) (w1:=(wr.setCell ⟨go12,(a1 : Int).toNat,none⟩ (.int .i64 0))) ?hg ?ho ?hn ?hr ?_;(case ho => rfl);(case hg => rfl);(case hn => rfl);(case hr => exact qq186);intro w15 hw;have hg : wr.grownBy w15 (some go12):=(by rw [hw];exact HP14.2);have hp_ : Kd.R (Kd.int .i64) 3 w15 w.heap.size (fun _ => True) (.slice (some ⟨go12,0,none⟩) x5_1.length co12) y304:=(by rw [hw,Ny304.out];exact HP14.1);clear HP14;replace BK297:=am (blk_grown (g:=gb297) (o:=.cells #[.int .i64 a0_0,.int .i64 a0_1,.slice A0_2 l0_2.length c0_2] 51 (0,0)) qq125 hg (Kd.R_ne HO_5.out BK297.out (by decide)));replace HO_5:=am (hp_);replace HB:=am ((by rw [hw];exact below_set (HB.out) GB12.out : Below w.heap.size w w15));clear hg hw hp_) | ((with_reducible refine gate_dst (N:=26) rfl ?_);refine Kd.R_lit (Kd.int .i64) _ 3 ?hg (N:=26) ?hd (xs:=([a1] : List Int)) (inner:=[.int .i64 a1]) (ok:=fun _ => True) (okp:=fun _ => True) ?hr ?hp (fun _ hk => hk) trivial (Below.refl _ _) (Nat.le_refl _) (by simp) ?_;(case hd => rfl);(case hg => rfl);(case hr => exact qq186);(case hp => exact qq150);intro v306 w16 ho17 hb hg_ hnew_;clear hg_ hnew_;(first | rw [← Ny305.out] at ho17 | (simp only [Int.reduceToNat] at ho17;rw [← Ny305.out] at ho17));have HO307:=am (Kd.R_lower (Kd.R_new' ho17 (Kd.R_lt qq178)) (below_size qq80));replace HO_5:=am (Kd.R_elder' qq178 (Kd.R_base ho17) hb);replace BK297:=am (blk_below (g:=gb297) (o:=.cells #[.int .i64 a0_0,.int .i64 a0_1,.slice A0_2 l0_2.length c0_2] 51 (0,0)) qq125 hb);replace HB:=am (below_step qq80 hb);clear hb ho17))
      go_loopg [7,8] k1 (fun kq v7 v8 w' => ∃ (x5_2 : List Int) (x7_2 : List Int) (x8_2 : Int),v8 = .int .i64 x8_2 ∧ Aside0 (spec_l5From.l1 kq x5_2 x7_2 x8_2 a0_0 a0_1 l0_2 = some r) ∧ Aside0 (kq ≤ k1) ∧ Aside0 (Kd.R (Kd.int .i64) 3 w' w.heap.size (fun k_ => some k_ ≠ (v7 : Value).ownBlock) (.slice (some ⟨go12,0,none⟩) x5_1.length co12) x5_2) ∧ Aside0 (Kd.R (Kd.int .i64) 3 w' w.heap.size (fun k_ => some k_ ≠ ((.slice (some ⟨go12,0,none⟩) x5_1.length co12) : Value).ownBlock) v7 x7_2) ∧ Aside0 (w'.heap[gb297]? = some (.cells #[.int .i64 a0_0,.int .i64 a0_1,(.slice A0_2 l0_2.length c0_2)] 51 (0,0))) ∧ Aside0 (Below w.heap.size w w'))
      case atStart => exact ⟨(y304),(y305),(0),qq185,H',⟨Nat.le_refl _⟩,⟨qq115⟩,⟨by (with_reducible repeat (first | apply kA | apply kN | apply kD));exact Kd.R_mono HO307.out (fun _ hk => hk.2)⟩,⟨qq125⟩,⟨qq80⟩⟩
      case round =>
       clear H'
       try clear c1
       try clear p1
       try clear q1
       try clear hx1
       try clear p2
       try clear c6
       try clear c6b0
       try clear p6
       try clear c7
       try clear c10
       try clear c10b0
       try clear c11
       try clear c11b0
       try clear p12
       try clear q12
       try clear hx12
       try clear hf12
       try clear c13
       try clear hcz13_0
       try clear hcz13_1
       try clear hcz13_2
       try clear hcz8_0
       try clear hcz8_1
       try clear hcz8_2
       try clear hfz13_0
       try clear hfz13_1
       try clear hfz13_2
       try clear hfz8_0
       try clear hfz8_1
       try clear hfz8_2
       try clear hx12_0
       try clear p12
       try clear p2
       try clear q12
       obtain ⟨x5_2,x7_2,x8_2,rfl,HA,HK2,HO_5,HO_7,BK297,HB⟩:=hrel;have hl5_2:=(Kd.R_reads' HO_5.out).1;rw [hl5_2] at HO_5;(try simp only [hl5_2]);(try simp only [hl5_2] at BK297);(try simp only [hl5_2] at HO_7)
       cases gk with
       | zero => exact absurd HA.out (by simp [spec_l5From.l1])
       | succ k2 =>
        have H:=HA.out;clear HA;simp only [spec_l5From.l1] at H
        by_cases c18 : x8_2 < (x7_2.length : Int)
        ·rw [if_pos c18] at H;have c18b0 : decide (x8_2 < (x7_2.length : Int)) = true:=decide_eq_true c18;clear c18
         by_cases c19 : 0 ≤ x8_2
         ·rw [if_pos c19] at H;have c19b0 : decide (0 ≤ x8_2) = true:=decide_eq_true c19;clear c19;replace H:=bS.mp H;obtain ⟨t309,A200,H⟩:=H;replace H : (spec_l5From.l2 k2 x5_2 x7_2 x8_2 t309 0 a0_0 a0_1 l0_2) = some r:=H;have A20:=am A200;clear A200;have H':=am H;clear H;obtain ⟨Ao21,co21,eo21⟩:=Kd.R_slice HO_7.out;subst eo21
          try go_wp2
          replace HO_5:=am (Kd.R_drew HO_5.out);replace HO_7:=am (Kd.R_drew HO_7.out);replace BK297:=am (blk_drew BK297.out);replace HB:=am (below_drew1 HB.out);have p308 : 0 ≤ (x8_2 : Int):=odt qq183;have q308 : x8_2 < (x7_2.length : Int):=odt qq183;obtain ⟨ad308,e308,hx308_0⟩:=Kd.at_int (Kd.R_reads' HO_7.out).2.2 x8_2 p308 q308
          cases e308
          replace p308:=eq_true p308;replace q308:=eq_true q308;refine start_ (n:=7) (S:=fun w' => w'.cell? ⟨gb297,0,none⟩ = some (.int .i64 a0_0) ∧ w'.cell? ⟨gb297,1,none⟩ = some (.int .i64 a0_1) ∧ w'.cell? ⟨gb297,2,none⟩ = some (.slice A0_2 l0_2.length c0_2) ∧ w'.cell? (ad308.add (x8_2).toNat) = some (.int .i64 (rd x7_2 x8_2))) (ds:=[]) #[Z,Z,Z,Z,Z,Z,Z] (by kernel_rfl) rfl rfl ⟨(blk_cell BK297.out 0).trans rfl,(blk_cell BK297.out 1).trans rfl,(blk_cell BK297.out 2).trans rfl,hx308_0⟩ (fun hHeld => ?_)
          generalize wr.drew = w22 at HO_5 HO_7 BK297 HB hx308_0 hHeld ⊢
          refine pV (i:=1) (N:=some 34) #[Z,Y,Z,Z,Z,Z,Z] rfl rfl (by kernel_rfl) ?_
          refine pV (i:=2) (N:=some 35) #[Z,Y,Y,Z,Z,Z,Z] rfl rfl (by kernel_rfl) ?_
          refine pV (i:=3) (N:=some 36) #[Z,Y,Y,Y,Z,Z,Z] rfl rfl (by kernel_rfl) ?_
          refine tV4 (i:=0) (N:=some 33) #[Y,Y,Y,Y,Z,Z,Z] rfl rfl (by kernel_rfl) hHeld ?_
          refine tV4 (i:=4) (N:=some 37) #[Y,Y,Y,Y,Y,Z,Z] rfl rfl (by kernel_rfl) hHeld ?_
          refine one_ (i:=5) (N:=some 38) #[Y,Y,Y,Y,Y,Y,Z] rfl rfl (by kernel_rfl) (by decide) (fun K hK => ?_);refine goes_ Try.func138 (by kernel_rfl) rfl #[.agg #[.int .i64 a0_0,.int .i64 a0_1,.slice A0_2 l0_2.length c0_2],.int .i64 (rd x7_2 x8_2)] (by rfl) rfl rfl qq101 ?_;with_reducible refine (spec_l4Near.calls k2 a0_0 a0_1 _ _ l0_2 (rd x7_2 x8_2) t309 _ ?side1 ?side2 A20.out).mono ?_
          (case side1 => exact qq56);(case side2 => exact qq199)
          rintro e w23 ⟨v310,rfl,ho0,hb⟩
          have HS3_:=(hb.cell (bl _ _ (hHeld.2.2.2))).trans (hHeld.2.2.2);refine ⟨_,rfl,?_⟩;have HO311:=am (Kd.R_lower (Kd.R_new' (Kd.R_new' ho0 (Kd.R_lt qq178)) (Kd.R_lt qq177)) (below_size qq80));replace HO_5:=am (Kd.R_elder' qq178 (Kd.R_base ho0) hb);replace HO_7:=am (Kd.R_elder' qq177 (Kd.R_base ho0) hb);replace BK297:=am (blk_below (g:=gb297) (o:=.cells #[.int .i64 a0_0,.int .i64 a0_1,.slice A0_2 l0_2.length c0_2] 51 (0,0)) qq125 hb);replace HB:=am (below_step qq80 hb);(try clear hb);(try clear hb2);(try clear hk);(try clear hi);(try clear ho0);refine hK.out _ _ ⟨(blk_cell BK297.out 0).trans rfl,(blk_cell BK297.out 1).trans rfl,(blk_cell BK297.out 2).trans rfl,HS3_⟩ (fun hHeld => ?_);clear hK K;refine norm_ (a':=?_) ?_ ?_;rotate_left
          ·show Act.put _ (some 38) _ = _
           simp only [Act.put,sA,s0,s1,i64_w,i32_w];rfl
          refine pV (i:=6) (N:=some 9) #[Y,Y,Y,Y,Y,Y,Y] rfl rfl (by kernel_rfl) ?_
          refine done_ (by kernel_rfl) ?_
          try go_wp2
          go_loopg [7,10] k2 (fun kq v7 v10 w' => ∃ (x5_3 : List Int) (x7_3 : List Int) (x10_3 : Int),v10 = .int .i64 x10_3 ∧ Aside0 (spec_l5From.l2 kq x5_3 x7_3 x8_2 t309 x10_3 a0_0 a0_1 l0_2 = some r) ∧ Aside0 (kq ≤ k2) ∧ Aside0 (Kd.R (Kd.int .i64) 3 w' w.heap.size (fun k_ => some k_ ≠ (v7 : Value).ownBlock ∧ some k_ ≠ (v310 : Value).ownBlock) (.slice (some ⟨go12,0,none⟩) x5_2.length co12) x5_3) ∧ Aside0 (Kd.R (Kd.int .i64) 3 w' w.heap.size (fun k_ => some k_ ≠ ((.slice (some ⟨go12,0,none⟩) x5_2.length co12) : Value).ownBlock ∧ some k_ ≠ (v310 : Value).ownBlock) v7 x7_3) ∧ Aside0 (Kd.R (Kd.int .i64) 3 w' w.heap.size (fun k_ => some k_ ≠ ((.slice (some ⟨go12,0,none⟩) x5_2.length co12) : Value).ownBlock ∧ some k_ ≠ (v7 : Value).ownBlock) v310 t309) ∧ Aside0 (w'.heap[gb297]? = some (.cells #[.int .i64 a0_0,.int .i64 a0_1,(.slice A0_2 l0_2.length c0_2)] 51 (0,0))) ∧ Aside0 (Below w.heap.size w w'))
          case atStart => exact ⟨(x5_2),(x7_2),(0),qq185,H',⟨Nat.le_refl _⟩,⟨by (try simp only [hl5_2]);(with_reducible repeat (first | apply kA | apply kN | apply kD));exact HO_5.out⟩,⟨by (try simp only [hl5_2]);(with_reducible repeat (first | apply kA | apply kN | apply kD));exact HO_7.out⟩,⟨by (try simp only [hl5_2]);(with_reducible repeat (first | apply kA | apply kN | apply kD));exact Kd.R_mono HO311.out (fun _ hk => ⟨hk.1.2,hk.2⟩)⟩,⟨by (try simp only [hl5_2]);(with_reducible repeat (first | refine dN ?_ _ | refine dD ?_ | refine dA ?_ _));exact BK297.out⟩,⟨qq80⟩⟩
          case round =>
           clear H'
           try clear c1
           try clear p1
           try clear q1
           try clear hx1
           try clear p2
           try clear p3
           try clear q3
           try clear hx3
           try clear c6
           try clear c6b0
           try clear p6
           try clear c7
           try clear c10
           try clear c10b0
           try clear c11
           try clear c11b0
           try clear p12
           try clear q12
           try clear hx12
           try clear hf12
           try clear c13
           try clear c18
           try clear c18b0
           try clear c19
           try clear c19b0
           try clear hcz13_0
           try clear hcz13_1
           try clear hcz13_2
           try clear hcz8_0
           try clear hcz8_1
           try clear hcz8_2
           try clear hfz13_0
           try clear hfz13_1
           try clear hfz13_2
           try clear hfz8_0
           try clear hfz8_1
           try clear hfz8_2
           try clear hx12_0
           try clear hx308_0
           try clear p1
           try clear p12
           try clear p2
           try clear p308
           try clear p6
           try clear q1
           try clear q12
           try clear q308
           obtain ⟨x5_3,x7_3,x10_3,rfl,HA,HK3,HO_5,HO_7,HO_9,BK297,HB⟩:=hrel;have hl5_3:=(Kd.R_reads' HO_5.out).1;rw [hl5_3] at HO_5;(try simp only [hl5_3]);(try simp only [hl5_3] at BK297);(try simp only [hl5_3] at HO_7);(try simp only [hl5_3] at HO_9)
           cases gk with
           | zero => exact absurd HA.out (by simp [spec_l5From.l2])
           | succ k3 =>
            have H:=HA.out;clear HA;simp only [spec_l5From.l2] at H
            by_cases c24 : x10_3 < (t309.length : Int)
            ·rw [if_pos c24] at H;have c24b0 : decide (x10_3 < (t309.length : Int)) = true:=decide_eq_true c24;clear c24
             by_cases c25 : 0 ≤ x10_3
             ·rw [if_pos c25] at H;have c25b0 : decide (0 ≤ x10_3) = true:=decide_eq_true c25;clear c25
              by_cases c26 : 0 ≤ (rd t309 x10_3)
              ·rw [if_pos c26] at H;have c26b0 : decide (0 ≤ (rd t309 x10_3)) = true:=decide_eq_true c26;clear c26
               by_cases c27 : (rd t309 x10_3) < (x5_3.length : Int)
               ·rw [if_pos c27] at H;have c27b0 : decide ((rd t309 x10_3) < (x5_3.length : Int)) = true:=decide_eq_true c27;clear c27
                by_cases c28 : (rd x5_3 (rd t309 x10_3)) < 0
                ·rw [if_pos c28] at H;have c28b0 : decide ((rd x5_3 (rd t309 x10_3)) < 0) = true:=decide_eq_true c28;clear c28
                 by_cases c29 : 0 ≤ x8_2
                 ·rw [if_pos c29] at H;have c29b0 : decide (0 ≤ x8_2) = true:=decide_eq_true c29;clear c29
                  by_cases c30 : x8_2 < (x7_3.length : Int)
                  ·rw [if_pos c30] at H;have c30b0 : decide (x8_2 < (x7_3.length : Int)) = true:=decide_eq_true c30;clear c30
                   by_cases c31 : 0 ≤ (rd x7_3 x8_2)
                   ·rw [if_pos c31] at H;have c31b0 : decide (0 ≤ (rd x7_3 x8_2)) = true:=decide_eq_true c31;clear c31
                    by_cases c32 : (rd x7_3 x8_2) < (x5_3.length : Int)
                    ·rw [if_pos c32] at H;have c32b0 : decide ((rd x7_3 x8_2) < (x5_3.length : Int)) = true:=decide_eq_true c32;clear c32;obtain ⟨y317,hy317⟩ : ∃ y_ : List Int,y_ = (x5_3.set ((rd t309 x10_3) : Int).toNat (wrap64 ((rd x5_3 (rd x7_3 x8_2)) + 1))):=⟨_,rfl⟩
                     replace H : (if x7_3.length < 17592186044416 then (spec_l5From.l2 k3 y317 (x7_3 ++ [rd t309 x10_3]) x8_2 t309 (wrap64 (x10_3 + 1)) a0_0 a0_1 l0_2) else (none)) = some r:=by first | (rw [hy317];with_reducible exact H) | (have H2_:=(Option.bind_some _ _).symm.trans H;rw [hy317];with_reducible exact H2_) | (have H2_:=(Option.bind_some _ _).symm.trans H;with_reducible exact H2_) | with_reducible exact H | (rw [hy317];exact H) | exact H
                     have Ny317:=am hy317;clear hy317
                     by_cases c34 : x7_3.length < 17592186044416
                     ·rw [if_pos c34] at H;have LMc34:=am c34;clear c34;obtain ⟨y319,hy319⟩ : ∃ y_ : List Int,y_ = (x7_3 ++ [rd t309 x10_3]):=⟨_,rfl⟩
                      replace H : (spec_l5From.l2 k3 y317 y319 x8_2 t309 (wrap64 (x10_3 + 1)) a0_0 a0_1 l0_2) = some r:=by first | (rw [hy319];with_reducible exact H) | (have H2_:=(Option.bind_some _ _).symm.trans H;rw [hy319];with_reducible exact H2_) | (have H2_:=(Option.bind_some _ _).symm.trans H;with_reducible exact H2_) | with_reducible exact H | (rw [hy319];exact H) | exact H
                      have Ny319:=am hy319;clear hy319;have H':=am H;clear H;obtain ⟨Ao35,co35,eo35⟩:=Kd.R_slice HO_9.out;subst eo35;have p312 : 0 ≤ (x10_3 : Int):=odt qq183;have q312 : x10_3 < (t309.length : Int):=odt qq183;obtain ⟨ad312,e312,hx312_0⟩:=Kd.at_int (Kd.R_reads' HO_9.out).2.2 x10_3 p312 q312
                      cases e312
                      replace p312:=eq_true p312;replace q312:=eq_true q312;have p313 : 0 ≤ ((rd t309 x10_3) : Int):=odt qq183;have q313 : (rd t309 x10_3) < (x5_3.length : Int):=odt qq183;obtain ⟨ad313,e313,hx313_0⟩:=Kd.at_int (Kd.R_reads' HO_5.out).2.2 (rd t309 x10_3) p313 q313;obtain rfl : (⟨go12,0,none⟩ : Addr) = ad313:=(by injection e313)
                      (first | simp only [add_plain] at hx313_0 | simp only [add_at] at hx313_0 | simp only [Addr.add,Nat.zero_add] at hx313_0 | skip);replace p313:=eq_true p313;replace q313:=eq_true q313
                      try go_wp2
                      replace HO_5:=am (Kd.R_drew HO_5.out);replace HO_7:=am (Kd.R_drew HO_7.out);replace HO_9:=am (Kd.R_drew HO_9.out);replace BK297:=am (blk_drew BK297.out);replace HB:=am (below_drew1 HB.out);have p314 : 0 ≤ (x10_3 : Int):=odt qq183;have q314 : x10_3 < (t309.length : Int):=odt qq183;obtain ⟨ad314,e314,hx314_0⟩:=Kd.at_int (Kd.R_reads' HO_9.out).2.2 x10_3 p314 q314;obtain rfl : ad312 = ad314:=(by injection e314)
                      replace p314:=eq_true p314;replace q314:=eq_true q314;obtain ⟨Ao37,co37,eo37⟩:=Kd.R_slice HO_7.out;(first | subst eo37 | (injection eo37 with f1_ f2_ f3_;have f4_:=f1_.symm;have f5_:=f3_.symm;clear f1_ f2_ f3_;subst f4_;subst f5_));have p315 : 0 ≤ (x8_2 : Int):=odt qq183;have q315 : x8_2 < (x7_3.length : Int):=odt qq183;obtain ⟨ad315,e315,hx315_0⟩:=Kd.at_int (Kd.R_reads' HO_7.out).2.2 x8_2 p315 q315
                      cases e315
                      replace p315:=eq_true p315;replace q315:=eq_true q315;have p316 : 0 ≤ ((rd x7_3 x8_2) : Int):=odt qq183;have q316 : (rd x7_3 x8_2) < (x5_3.length : Int):=odt qq183;obtain ⟨ad316,e316,hx316_0⟩:=Kd.at_int (Kd.R_reads' HO_5.out).2.2 (rd x7_3 x8_2) p316 q316;obtain rfl : (⟨go12,0,none⟩ : Addr) = ad316:=(by injection e316)
                      (first | simp only [add_plain] at hx316_0 | simp only [add_at] at hx316_0 | simp only [Addr.add,Nat.zero_add] at hx316_0 | skip);replace p316:=eq_true p316;replace q316:=eq_true q316;have p33 : 0 ≤ ((rd t309 x10_3) : Int):=odt qq183;have q33 : ((rd t309 x10_3) : Int) < ((x5_3.length : Int) : Int):=odt qq183;obtain ⟨hx33_0,hf33_0⟩:=Kd.R_celln 0 HO_5.out ((rd t309 x10_3) : Int) p33 q33;replace p33:=eq_true p33;replace q33:=eq_true q33;have HP38:=Kd.R_putn HO_5.out ((rd t309 x10_3) : Int) (wrap64 ((rd x5_3 (rd x7_3 x8_2)) + 1));rw [← Ny317.out] at HP38;have HQ38:=am HP38;clear HP38;refine start_ (n:=15) (S:=fun w' => w'.cell? (ad312.add (x10_3).toNat) = some (.int .i64 (rd t309 x10_3)) ∧ w'.cell? (ad315.add (x8_2).toNat) = some (.int .i64 (rd x7_3 x8_2)) ∧ w'.cell? ⟨go12,((rd x7_3 x8_2)).toNat,none⟩ = some (.int .i64 (rd x5_3 (rd x7_3 x8_2)))) (ds:=[14]) #[Z,Z,Z,Z,Z,Z,Z,Z,Z,Z,Z,Z,Z,Z,Z] (by kernel_rfl) rfl rfl ⟨hx314_0,hx315_0,hx316_0⟩ (fun hHeld => ?_);refine with_tabW spec_l5From.tab16 spec_l5From.bits16 (fun HT_ HW_ => ?_)
                      generalize wr.drew = w36 at HO_5 HO_7 HO_9 BK297 HB HQ38 hf33_0 hx314_0 hx315_0 hx316_0 hx33_0 hHeld ⊢
                      refine pV (i:=0) (N:=some 53) #[Y,Z,Z,Z,Z,Z,Z,Z,Z,Z,Z,Z,Z,Z,Z] rfl rfl qT ?_
                      refine pV (i:=1) (N:=some 54) #[Y,Y,Z,Z,Z,Z,Z,Z,Z,Z,Z,Z,Z,Z,Z] rfl rfl qT ?_
                      refine pV (i:=2) (N:=some 55) #[Y,Y,Y,Z,Z,Z,Z,Z,Z,Z,Z,Z,Z,Z,Z] rfl rfl qT ?_
                      refine pV (i:=3) (N:=some 56) #[Y,Y,Y,Y,Z,Z,Z,Z,Z,Z,Z,Z,Z,Z,Z] rfl rfl qT ?_
                      refine pV (i:=5) (N:=some 58) #[Y,Y,Y,Y,Z,Y,Z,Z,Z,Z,Z,Z,Z,Z,Z] rfl rfl qT ?_
                      refine pV (i:=6) (N:=some 59) #[Y,Y,Y,Y,Z,Y,Y,Z,Z,Z,Z,Z,Z,Z,Z] rfl rfl qT ?_
                      refine pV (i:=7) (N:=some 60) #[Y,Y,Y,Y,Z,Y,Y,Y,Z,Z,Z,Z,Z,Z,Z] rfl rfl qT ?_
                      refine pV (i:=8) (N:=some 61) #[Y,Y,Y,Y,Z,Y,Y,Y,Y,Z,Z,Z,Z,Z,Z] rfl rfl qT ?_
                      refine tV3 (i:=4) (N:=some 57) #[Y,Y,Y,Y,Y,Y,Y,Y,Y,Z,Z,Z,Z,Z,Z] rfl rfl (take_ofW HT_.out HW_.out (by kernel_rfl)) hHeld ?_
                      refine tV3 (i:=9) (N:=some 62) #[Y,Y,Y,Y,Y,Y,Y,Y,Y,Y,Z,Z,Z,Z,Z] rfl rfl (take_ofW HT_.out HW_.out (by kernel_rfl)) hHeld ?_
                      refine pV (i:=10) (N:=some 63) #[Y,Y,Y,Y,Y,Y,Y,Y,Y,Y,Y,Z,Z,Z,Z] rfl rfl qT ?_
                      refine tV3 (i:=11) (N:=some 64) #[Y,Y,Y,Y,Y,Y,Y,Y,Y,Y,Y,Y,Z,Z,Z] rfl rfl (take_ofW HT_.out HW_.out (by kernel_rfl)) hHeld ?_
                      refine pV (i:=12) (N:=some 65) #[Y,Y,Y,Y,Y,Y,Y,Y,Y,Y,Y,Y,Y,Z,Z] rfl rfl qT ?_
                      refine pV (i:=13) (N:=some 66) #[Y,Y,Y,Y,Y,Y,Y,Y,Y,Y,Y,Y,Y,Y,Z] rfl rfl qT ?_
                      refine last_ (i:=14) (N:=none) #[Y,Y,Y,Y,Y,Y,Y,Y,Y,Y,Y,Y,Y,Y,Y] rfl rfl (one_of HT_.out (by kernel_rfl)) (by decide) (fun K hK => ?_);refine skip_ (w1:=?_) (by rfl) rfl ?_ ?_;rotate_left
                      ·go_simp;rfl
                      refine hK.out _ _ ?_;clear hK K;refine done_ (done_of HT_.out (by kernel_rfl)) ?_;have p318 : 0 ≤ (x10_3 : Int):=odt qq183;have q318 : x10_3 < (t309.length : Int):=odt qq183;obtain ⟨ad318,e318,hx318_0⟩:=Kd.at_int (Kd.R_reads' HO_9.out).2.2 x10_3 p318 q318;obtain rfl : ad312 = ad318:=(by injection e318)
                      have hn318_0 : ad312.block ≠ go12:=Kd.own_blk (fun e_ => by have hk:=HO_9.out.1 _ e_.symm;exact absurd (by first | rfl | simp only [Value.ownBlock]) (hk.1));replace hx318_0:=(cell_far (p:=⟨go12,((rd t309 x10_3) : Int).toNat,none⟩) (by first | (rw [add_block];exact hn318_0) | (show (Addr.add _ _).block ≠ _;rw [add_block];exact hn318_0) | exact hn318_0) (.int .i64 (wrap64 ((rd x5_3 (rd x7_3 x8_2)) + 1)))).trans hx318_0;clear hn318_0;replace p318:=eq_true p318;replace q318:=eq_true q318
                      try go_wp2_with (first | ((with_reducible refine gate_builtin (b:=.append) (xs:=#[.tmp 67,.tmp 72]) rfl ?_);at_builtin;refine Kd.R_append (Kd.int .i64) (w0:=w) w.heap.size rfl (.tmp 67) (.tmp 72) 49 3 (.int .i64 0) 8 rfl Try.underlying49 info3 rfl (by decide) (by omega) (.slice (some ad315) x7_3.length co37) x7_3 (rd t309 x10_3) [.int .i64 (rd t309 x10_3)] (fun k_ => some k_ ≠ (.slice (some ⟨go12,0,none⟩) x5_3.length co12 : Value).ownBlock ∧ some k_ ≠ (.slice (some ad312) t309.length co35 : Value).ownBlock) (fun _ => False) rfl qq186 ?aP (fun _ hk => hk.elim) ?aF ?aO ?aB ?aS ?aL ?_;(case aP => exact rfl);(case aB => exact qq48);(case aF => exact (fun k_ hk => ⟨Kd.fresh' (Kd.R_lt (by (with_reducible repeat (first | apply kA | apply kN | apply kD));exact HQ38.out)) k_ hk,Kd.fresh' (Kd.R_lt (by (with_reducible repeat (first | apply kA | apply kN | apply kD));exact (Kd.R_mono (Kd.R_far (p:=⟨go12,((rd t309 x10_3) : Int).toNat,none⟩) (Kd.R_mono HO_9.out (fun k_ hk => (⟨hk,fun e_ => hk.1 (by rw [e_];rfl)⟩ : _ ∧ k_ ≠ go12))) (fun _ hk => hk.2) (.int .i64 (wrap64 ((rd x5_3 (rd x7_3 x8_2)) + 1)))) (fun _ h_ => h_.1)))) k_ hk⟩));(case aO => exact (by (with_reducible repeat (first | apply kA | apply kN | apply kD));exact Kd.R_mono (Kd.R_far (p:=⟨go12,((rd t309 x10_3) : Int).toNat,none⟩) (Kd.R_mono HO_7.out (fun k_ hk => (⟨hk,fun e_ => hk.1 (by rw [e_];rfl)⟩ : _ ∧ k_ ≠ go12))) (fun _ hk => hk.2) (.int .i64 (wrap64 ((rd x5_3 (rd x7_3 x8_2)) + 1)))) (fun _ hk => ⟨hk.1.1,hk.1.2⟩)));(case aS => exact (below_size qq48));(case aL => have:=LMc34.out;omega);intro v320 w39 ho hb hg hat;rw [← Ny319.out] at ho;replace HO_9:=am (Kd.R_after (ok:=(fun k_ => some k_ ≠ (.slice (some ⟨go12,0,none⟩) x5_3.length co12 : Value).ownBlock)) (by (with_reducible repeat (first | apply kA | apply kN | apply kD));exact Kd.R_mono (Kd.R_far (p:=⟨go12,((rd t309 x10_3) : Int).toNat,none⟩) (Kd.R_mono HO_9.out (fun k_ hk => (⟨hk,fun e_ => hk.1 (by rw [e_];rfl)⟩ : _ ∧ k_ ≠ go12))) (fun _ hk => hk.2) (.int .i64 (wrap64 ((rd x5_3 (rd x7_3 x8_2)) + 1)))) (fun _ hk => ⟨hk.1.1,hk.1.2⟩)) hg hat);replace BK297:=am (blk_grown (g:=gb297) (o:=.cells #[.int .i64 a0_0,.int .i64 a0_1,.slice A0_2 l0_2.length c0_2] 51 (0,0)) (by (with_reducible repeat (first | refine dN ?_ _ | refine dD ?_ | refine dA ?_ _));refine blk_far ?_ (by have h_:=Kd.R_ne HO_5.out BK297.out (by decide);intro e_;exact h_ (by rw [e_];rfl)) _;(with_reducible repeat (first | refine dN ?_ _ | refine dD ?_ | refine dA ?_ _));exact BK297.out) hg (Kd.R_ne HO_7.out BK297.out (by decide)));replace HO_5:=am (Kd.R_after (ok:=(fun k_ => some k_ ≠ (.slice (some ad312) t309.length co35 : Value).ownBlock)) (by (with_reducible repeat (first | apply kA | apply kN | apply kD));exact Kd.R_mono HQ38.out (fun _ hk => ⟨hk.2,hk.1⟩)) hg hat);replace HB:=am (hb);have HO321:=am (ho);clear HO_7;clear ho hb hg hat))
                      (try simp only [← hl5_3])
                      go_roundg k3
                      case measure => have:=HK1.out;have:=HK2.out;have:=HK3.out;omega
                      case rel => exact ⟨(y317),(y319),(wrap64 (x10_3 + 1)),qq185,H',⟨qq184⟩,⟨by (try simp only [hl5_2]);(try simp only [hl5_3]);(with_reducible repeat (first | apply kA | apply kN | apply kD));exact Kd.R_mono HO_5.out (fun _ hk => ⟨hk.2,hk.1⟩)⟩,⟨by (try simp only [hl5_2]);(try simp only [hl5_3]);(with_reducible repeat (first | apply kA | apply kN | apply kD));exact HO321.out⟩,⟨qq103⟩,⟨qq70⟩,⟨qq80⟩⟩
                     ·rw [if_neg c34] at H;exact absurd H (by simp)
                    ·rw [if_neg c32] at H;exact absurd H (by simp)
                   ·rw [if_neg c31] at H;exact absurd H (by simp)
                  ·rw [if_neg c30] at H;exact absurd H (by simp)
                 ·rw [if_neg c29] at H;exact absurd H (by simp)
                ·rw [if_neg c28] at H;have c28b0 : decide ((rd x5_3 (rd t309 x10_3)) < 0) = false:=decide_eq_false c28;clear c28;have H':=am H;clear H;obtain ⟨Ao40,co40,eo40⟩:=Kd.R_slice HO_9.out;subst eo40;have p312 : 0 ≤ (x10_3 : Int):=odt qq183;have q312 : x10_3 < (t309.length : Int):=odt qq183;obtain ⟨ad312,e312,hx312_0⟩:=Kd.at_int (Kd.R_reads' HO_9.out).2.2 x10_3 p312 q312
                 cases e312
                 replace p312:=eq_true p312;replace q312:=eq_true q312;have p313 : 0 ≤ ((rd t309 x10_3) : Int):=odt qq183;have q313 : (rd t309 x10_3) < (x5_3.length : Int):=odt qq183;obtain ⟨ad313,e313,hx313_0⟩:=Kd.at_int (Kd.R_reads' HO_5.out).2.2 (rd t309 x10_3) p313 q313;obtain rfl : (⟨go12,0,none⟩ : Addr) = ad313:=(by injection e313)
                 (first | simp only [add_plain] at hx313_0 | simp only [add_at] at hx313_0 | simp only [Addr.add,Nat.zero_add] at hx313_0 | skip);replace p313:=eq_true p313;replace q313:=eq_true q313;go_wp2
                 (try simp only [← hl5_3])
                 go_roundg k3
                 case measure => have:=HK1.out;have:=HK2.out;have:=HK3.out;omega
                 case rel => exact ⟨(x5_3),(x7_3),(wrap64 (x10_3 + 1)),qq185,H',⟨qq184⟩,⟨by (try simp only [hl5_2]);(try simp only [hl5_3]);(with_reducible repeat (first | apply kA | apply kN | apply kD));exact HO_5.out⟩,⟨by (try simp only [hl5_2]);(try simp only [hl5_3]);(with_reducible repeat (first | apply kA | apply kN | apply kD));exact HO_7.out⟩,⟨qq103⟩,⟨qq70⟩,⟨qq80⟩⟩
               ·rw [if_neg c27] at H;exact absurd H (by simp)
              ·rw [if_neg c26] at H;exact absurd H (by simp)
             ·rw [if_neg c25] at H;exact absurd H (by simp)
            ·rw [if_neg c24] at H;have c24b0 : decide (x10_3 < (t309.length : Int)) = false:=decide_eq_false c24;clear c24;have H':=am H;clear H;obtain ⟨Ao41,co41,eo41⟩:=Kd.R_slice HO_9.out;subst eo41;go_wp2
             (try simp only [← hl5_2,← hl5_3])
             go_roundg k3
             case measure => have:=HK1.out;have:=HK2.out;have:=HK3.out;omega
             case rel => exact ⟨(x5_3),(x7_3),(wrap64 (x8_2 + 1)),qq185,H',⟨qq184⟩,⟨by (try simp only [hl5_2]);(try simp only [hl5_3]);(with_reducible repeat (first | apply kA | apply kN | apply kD));exact Kd.R_mono HO_5.out (fun _ hk => hk.1)⟩,⟨by (try simp only [hl5_2]);(try simp only [hl5_3]);(with_reducible repeat (first | apply kA | apply kN | apply kD));exact Kd.R_mono HO_7.out (fun _ hk => hk.1)⟩,⟨qq70⟩,⟨qq80⟩⟩
         ·rw [if_neg c19] at H;exact absurd H (by simp)
        ·rw [if_neg c18] at H;have c18b0 : decide (x8_2 < (x7_2.length : Int)) = false:=decide_eq_false c18;clear c18;obtain rfl:=Option.some.inj H;obtain ⟨Ao42,co42,eo42⟩:=Kd.R_slice HO_7.out;subst eo42;go_wp2
         go_ret
         exact ⟨_,qq147,qq112,qq80⟩
     ·rw [if_neg c11] at H;exact absurd H (by simp)
    ·rw [if_neg c10] at H;exact absurd H (by simp)

/-! ### spec_Days: function 103 -/
def spec_Days.f (k : Nat) (a0_0 : Int) (a0_1 : Int) (l0_2 : List Int) (a1 : Int) (a2 : Int) : Option (Int) := (spec_IsOpen.f k a0_0 a0_1 l0_2 a1).bind fun t323 => (if t323 = true then ((spec_IsOpen.f k a0_0 a0_1 l0_2 a2).bind fun t324 => (if t324 = true then ((spec_l5From.f k a0_0 a0_1 l0_2 a1).bind fun t325 => (if 0 ≤ a2 then (if a2 < (t325.length : Int) then (some (rd t325 a2)) else (none)) else (none))) else (some (-1)))) else (some (-1)))
theorem spec_Days.mono : ∀ a0 a1 a2 a3 a4 k, LeO (spec_Days.f k a0 a1 a2 a3 a4) (spec_Days.f (k + 1) a0 a1 a2 a3 a4) := by
 intro a0 a1 a2 a3 a4 k
 unfold spec_Days.f
 repeat' first
   | (with_reducible exact spec_IsOpen.mono _ _ _ _ _)
   | (with_reducible exact spec_l5From.mono _ _ _ _ _)
   | (with_reducible exact LeO.refl _)
   | (with_reducible exact LeO.none _)
   | (with_reducible refine LeO.ite ?_ ?_)
   | (with_reducible refine LeO.bind ?_ (fun _ => ?_))
   | exact spec_IsOpen.mono _ _ _ _ _
   | exact spec_l5From.mono _ _ _ _ _
   | exact LeO.none _
   | refine LeO.ite ?_ ?_
   | refine LeO.bind ?_ (fun _ => ?_)
set_option maxHeartbeats 8000000 in
set_option maxRecDepth 100000 in
theorem spec_Days.calls (k : Nat) (a0_0 : Int) (a0_1 : Int) (A0_2 : Option Addr) (c0_2 : Nat) (l0_2 : List Int) (a1 : Int) (a2 : Int) (r : Int) (w : World) (hr0_2 : Kd.C (Kd.int .i64) w A0_2 l0_2.length l0_2) (hc0_2 : l0_2.length ≤ c0_2) (h : spec_Days.f k a0_0 a0_1 l0_2 a1 a2 = some r) :
  Calls Try.prog 103 #[.agg #[.int .i64 a0_0,.int .i64 a0_1,.slice A0_2 l0_2.length c0_2],.int .i64 a1,.int .i64 a2] w fun e w' => e = .returned (.int .i64 r) ∧ Below w.heap.size w w':=by
 have hu51:=Try.underlying51;have HR0_2:=am hr0_2;have HC0_2:=am hc0_2;clear hr0_2 hc0_2;have HB:=am (Below.refl w.heap.size w);have H : ((spec_IsOpen.f k a0_0 a0_1 l0_2 a1).bind fun t323 => (if t323 = true then ((spec_IsOpen.f k a0_0 a0_1 l0_2 a2).bind fun t324 => (if t324 = true then ((spec_l5From.f k a0_0 a0_1 l0_2 a1).bind fun t325 => (if 0 ≤ a2 then (if a2 < (t325.length : Int) then (some (rd t325 a2)) else (none)) else (none))) else (some (-1)))) else (some (-1)))) = some r:=h;clear h;replace H:=bS.mp H;obtain ⟨t323,A40,H⟩:=H;replace H : (if t323 = true then ((spec_IsOpen.f k a0_0 a0_1 l0_2 a2).bind fun t324 => (if t324 = true then ((spec_l5From.f k a0_0 a0_1 l0_2 a1).bind fun t325 => (if 0 ≤ a2 then (if a2 < (t325.length : Int) then (some (rd t325 a2)) else (none)) else (none))) else (some (-1)))) else (some (-1))) = some r:=H;have A4:=am A40;clear A40
 by_cases c5 : t323 = true
 ·subst c5;have H1 : ((spec_IsOpen.f k a0_0 a0_1 l0_2 a2).bind fun t324 => (if t324 = true then ((spec_l5From.f k a0_0 a0_1 l0_2 a1).bind fun t325 => (if 0 ≤ a2 then (if a2 < (t325.length : Int) then (some (rd t325 a2)) else (none)) else (none))) else (some (-1)))) = some r:=by rw [if_pos rfl] at H;exact H
  clear H;have H:=H1;clear H1;replace H:=bS.mp H;obtain ⟨t324,A60,H⟩:=H;replace H : (if t324 = true then ((spec_l5From.f k a0_0 a0_1 l0_2 a1).bind fun t325 => (if 0 ≤ a2 then (if a2 < (t325.length : Int) then (some (rd t325 a2)) else (none)) else (none))) else (some (-1))) = some r:=H;have A6:=am A60;clear A60
  by_cases c7 : t324 = true
  ·subst c7;have H1 : ((spec_l5From.f k a0_0 a0_1 l0_2 a1).bind fun t325 => (if 0 ≤ a2 then (if a2 < (t325.length : Int) then (some (rd t325 a2)) else (none)) else (none))) = some r:=by rw [if_pos rfl] at H;exact H
   clear H;have H:=H1;clear H1;replace H:=bS.mp H;obtain ⟨t325,A80,H⟩:=H;replace H : (if 0 ≤ a2 then (if a2 < (t325.length : Int) then (some (rd t325 a2)) else (none)) else (none)) = some r:=H;have A8:=am A80;clear A80
   by_cases c9 : 0 ≤ a2
   ·rw [if_pos c9] at H;have c9b0 : decide (0 ≤ a2) = true:=decide_eq_true c9;clear c9
    by_cases c10 : a2 < (t325.length : Int)
    ·rw [if_pos c10] at H;have c10b0 : decide (a2 < (t325.length : Int)) = true:=decide_eq_true c10;clear c10;obtain rfl:=Option.some.inj H
     go_enter Try.func103,Try.ntmps103
     go_wp2_with (first | ((with_reducible refine gate_dst (N:=3) rfl ?_);refine box_event ?hg (N:=3) ?hd (cs:=#[.int .i64 a0_0,.int .i64 a0_1,.slice A0_2 l0_2.length c0_2]) (t:=51) ?hr ?_;(case hd => rfl);(case hg => rfl);(case hr => exact qq186);intro gb322 hg w11 hbox hb;have BK322:=am (hbox);have GW322:=am ((qq73 : w.heap.size ≤ gb322));have GE322:=am ((qq73 : w.heap.size ≤ gb322));replace HB:=am (below_step qq117 hb);clear hb hbox hg;obtain ⟨hcz12_0,hcz12_1,hcz12_2,hfz12_0,hfz12_1,hfz12_2⟩:=bcl3 BK322.out) | ((with_reducible refine gate_callee (f:=105) rfl ?_);refine goesL_ (some 9) rfl rfl Try.func105 (by kernel_rfl) rfl #[.agg #[.int .i64 a0_0,.int .i64 a0_1,.slice A0_2 l0_2.length c0_2],.int .i64 a1] rfl qq101 ?_;(with_reducible refine (spec_IsOpen.calls k a0_0 a0_1 _ _ l0_2 a1 true _ ?side1 ?side2 A4.out).mono ?_);(case side1 => exact qq56);(case side2 => exact qq199);rintro e w13 ⟨rfl,hb⟩;refine ⟨_,rfl,?_⟩;replace BK322:=am (blk_below (g:=gb322) (o:=.cells #[.int .i64 a0_0,.int .i64 a0_1,.slice A0_2 l0_2.length c0_2] 51 (0,0)) qq124 hb);replace HB:=am (below_step qq79 hb);(try clear hb);(try clear hb2);(try clear hk);(try clear hi);obtain ⟨hcz14_0,hcz14_1,hcz14_2,hfz14_0,hfz14_1,hfz14_2⟩:=bcl3 BK322.out) | (go_at_call 105;(with_reducible refine (spec_IsOpen.calls k a0_0 a0_1 _ _ l0_2 a2 true _ ?side1 ?side2 A6.out).mono ?_);(case side1 => exact qq56);(case side2 => exact qq199);rintro e w15 ⟨rfl,hb⟩;replace BK322:=am (blk_below (g:=gb322) (o:=.cells #[.int .i64 a0_0,.int .i64 a0_1,.slice A0_2 l0_2.length c0_2] 51 (0,0)) qq124 hb);replace HB:=am (below_step qq79 hb);(try clear hb);(try clear hb2);(try clear hk);(try clear hi);obtain ⟨hcz16_0,hcz16_1,hcz16_2,hfz16_0,hfz16_1,hfz16_2⟩:=bcl3 BK322.out) | ((with_reducible refine gate_callee (f:=136) rfl ?_);refine goesL_ (some 19) rfl rfl Try.func136 (by kernel_rfl) rfl #[.agg #[.int .i64 a0_0,.int .i64 a0_1,.slice A0_2 l0_2.length c0_2],.int .i64 a1] rfl qq101 ?_;(with_reducible refine (spec_l5From.calls k a0_0 a0_1 _ _ l0_2 a1 t325 _ ?side1 ?side2 A8.out).mono ?_);(case side1 => exact qq56);(case side2 => exact qq199);rintro e w17 ⟨v326,rfl,ho0,hb⟩;refine ⟨_,rfl,?_⟩;have HO327:=am (Kd.R_lower ho0 (below_size qq79));replace BK322:=am (blk_below (g:=gb322) (o:=.cells #[.int .i64 a0_0,.int .i64 a0_1,.slice A0_2 l0_2.length c0_2] 51 (0,0)) qq124 hb);replace HB:=am (below_step qq79 hb);(try clear hb);(try clear hb2);(try clear hk);(try clear hi);(try clear ho0);obtain ⟨Ao18,co18,eo18⟩:=Kd.R_slice HO327.out;subst eo18;have p328 : 0 ≤ (a2 : Int):=odt qq183;have q328 : a2 < (t325.length : Int):=odt qq183;obtain ⟨ad328,e328,hx328_0⟩:=Kd.at_int (Kd.R_reads' HO327.out).2.2 a2 p328 q328;cases e328;replace p328:=eq_true p328;replace q328:=eq_true q328))
     go_ret
     exact ⟨qq147,qq79⟩
    ·rw [if_neg c10] at H;exact absurd H (by simp)
   ·rw [if_neg c9] at H;exact absurd H (by simp)
  ·replace c7:=Bool.eq_false_iff.mpr c7;subst c7;have H1 : (some (-1)) = some r:=by rw [if_neg (show ¬ (false = true) by decide)] at H;exact H
   clear H;have H:=H1;clear H1;obtain rfl:=Option.some.inj H
   go_enter Try.func103,Try.ntmps103
   go_wp2_with (first | ((with_reducible refine gate_dst (N:=3) rfl ?_);refine box_event ?hg (N:=3) ?hd (cs:=#[.int .i64 a0_0,.int .i64 a0_1,.slice A0_2 l0_2.length c0_2]) (t:=51) ?hr ?_;(case hd => rfl);(case hg => rfl);(case hr => exact qq186);intro gb322 hg w19 hbox hb;have BK322:=am (hbox);have GW322:=am ((qq73 : w.heap.size ≤ gb322));have GE322:=am ((qq73 : w.heap.size ≤ gb322));replace HB:=am (below_step qq117 hb);clear hb hbox hg;obtain ⟨hcz20_0,hcz20_1,hcz20_2,hfz20_0,hfz20_1,hfz20_2⟩:=bcl3 BK322.out) | ((with_reducible refine gate_callee (f:=105) rfl ?_);refine goesL_ (some 9) rfl rfl Try.func105 (by kernel_rfl) rfl #[.agg #[.int .i64 a0_0,.int .i64 a0_1,.slice A0_2 l0_2.length c0_2],.int .i64 a1] rfl qq101 ?_;(with_reducible refine (spec_IsOpen.calls k a0_0 a0_1 _ _ l0_2 a1 true _ ?side1 ?side2 A4.out).mono ?_);(case side1 => exact qq56);(case side2 => exact qq199);rintro e w21 ⟨rfl,hb⟩;refine ⟨_,rfl,?_⟩;replace BK322:=am (blk_below (g:=gb322) (o:=.cells #[.int .i64 a0_0,.int .i64 a0_1,.slice A0_2 l0_2.length c0_2] 51 (0,0)) qq124 hb);replace HB:=am (below_step qq79 hb);(try clear hb);(try clear hb2);(try clear hk);(try clear hi);obtain ⟨hcz22_0,hcz22_1,hcz22_2,hfz22_0,hfz22_1,hfz22_2⟩:=bcl3 BK322.out) | (go_at_call 105;(with_reducible refine (spec_IsOpen.calls k a0_0 a0_1 _ _ l0_2 a2 false _ ?side1 ?side2 A6.out).mono ?_);(case side1 => exact qq56);(case side2 => exact qq199);rintro e w23 ⟨rfl,hb⟩;replace BK322:=am (blk_below (g:=gb322) (o:=.cells #[.int .i64 a0_0,.int .i64 a0_1,.slice A0_2 l0_2.length c0_2] 51 (0,0)) qq124 hb);replace HB:=am (below_step qq79 hb);(try clear hb);(try clear hb2);(try clear hk);(try clear hi)))
   go_ret
   exact ⟨qq147,qq79⟩
 ·replace c5:=Bool.eq_false_iff.mpr c5;subst c5;have H1 : (some (-1)) = some r:=by rw [if_neg (show ¬ (false = true) by decide)] at H;exact H
  clear H;have H:=H1;clear H1;obtain rfl:=Option.some.inj H
  go_enter Try.func103,Try.ntmps103
  go_wp2_with (first | ((with_reducible refine gate_dst (N:=3) rfl ?_);refine box_event ?hg (N:=3) ?hd (cs:=#[.int .i64 a0_0,.int .i64 a0_1,.slice A0_2 l0_2.length c0_2]) (t:=51) ?hr ?_;(case hd => rfl);(case hg => rfl);(case hr => exact qq186);intro gb322 hg w24 hbox hb;have BK322:=am (hbox);have GW322:=am ((qq73 : w.heap.size ≤ gb322));have GE322:=am ((qq73 : w.heap.size ≤ gb322));replace HB:=am (below_step qq117 hb);clear hb hbox hg;obtain ⟨hcz25_0,hcz25_1,hcz25_2,hfz25_0,hfz25_1,hfz25_2⟩:=bcl3 BK322.out) | ((with_reducible refine gate_callee (f:=105) rfl ?_);refine goesL_ (some 9) rfl rfl Try.func105 (by kernel_rfl) rfl #[.agg #[.int .i64 a0_0,.int .i64 a0_1,.slice A0_2 l0_2.length c0_2],.int .i64 a1] rfl qq101 ?_;(with_reducible refine (spec_IsOpen.calls k a0_0 a0_1 _ _ l0_2 a1 false _ ?side1 ?side2 A4.out).mono ?_);(case side1 => exact qq56);(case side2 => exact qq199);rintro e w26 ⟨rfl,hb⟩;refine ⟨_,rfl,?_⟩;replace BK322:=am (blk_below (g:=gb322) (o:=.cells #[.int .i64 a0_0,.int .i64 a0_1,.slice A0_2 l0_2.length c0_2] 51 (0,0)) qq124 hb);replace HB:=am (below_step qq79 hb);(try clear hb);(try clear hb2);(try clear hk);(try clear hi)))
  go_ret
  exact ⟨qq147,qq79⟩

end Go.Proofs.Ytcbkknpmeknppaa.PFnExactPlanDays
