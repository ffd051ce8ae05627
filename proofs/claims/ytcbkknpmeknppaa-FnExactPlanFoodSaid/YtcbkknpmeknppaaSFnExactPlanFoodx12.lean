/- Contracts of functions that the law FnExactPlanFood reaches, for its row: lines that the kit's printer wrote for this claim, set shorter by a program of this session (own.py), and what fell in Lean proved anew. Lean checks them. -/
import Derived.Test.YtcbkknpmeknppaaSFnExactPlanFoodx0
import Derived.Test.YtcbkknpmeknppaaSFnExactPlanFoodx10
import Derived.Test.YtcbkknpmeknppaaSFnExactPlanFoodx11
namespace Go.Proofs.Ytcbkknpmeknppaa.PFnExactPlanFood
open Go.RowKit Go.Proofs.YtcbkknpmeknppaaW.PrintWords Go.Proofs.YtcbkknpmeknppaaW.PrintLast Go.Proofs.YtcbkknpmeknppaaW.PrintMore
attribute [local go_sem] max2_int min2_int max_two min_two max_three min_three max_four min_four   -- for this text's walks alone
set_option linter.unusedVariables false
set_option linter.unusedSimpArgs false

/-! ### spec_l5From: function 136 -/
mutual
def spec_l5From.l0 : Nat → Int → List Int → Int → Int → Int → List Int → Option (List Int)
 | 0,_,_,_,_,_,_ => none
 | k + 1,x1,x5,x6,x363000,x363001,x363002 => if x6 < (x363002.length : Int) then (if x5.length < 17592186044416 then (spec_l5From.l0 k x1 (x5 ++ [(-1)]) (wrap64 (x6 + 1)) x363000 x363001 x363002) else (none)) else (if 0 ≤ x1 then (if x1 < (x5.length : Int) then (spec_l5From.l1 k (x5.set (x1 : Int).toNat 0) (([x1] : List Int)) 0 x363000 x363001 x363002) else (none)) else (none))
def spec_l5From.l1 : Nat → List Int → List Int → Int → Int → Int → List Int → Option (List Int)
 | 0,_,_,_,_,_,_ => none
 | k + 1,x5,x7,x8,x363000,x363001,x363002 => if x8 < (x7.length : Int) then (if 0 ≤ x8 then ((spec_l4Near.f k x363000 x363001 x363002 (rd x7 x8)).bind fun t374 => (spec_l5From.l2 k x5 x7 x8 t374 0 x363000 x363001 x363002)) else (none)) else (some x5)
def spec_l5From.l2 : Nat → List Int → List Int → Int → List Int → Int → Int → Int → List Int → Option (List Int)
 | 0,_,_,_,_,_,_,_,_ => none
 | k + 1,x5,x7,x8,x9,x10,x363000,x363001,x363002 => if x10 < (x9.length : Int) then (if 0 ≤ x10 then (if 0 ≤ (rd x9 x10) then (if (rd x9 x10) < (x5.length : Int) then (if (rd x5 (rd x9 x10)) < 0 then (if 0 ≤ x8 then (if x8 < (x7.length : Int) then (if 0 ≤ (rd x7 x8) then (if (rd x7 x8) < (x5.length : Int) then (if x7.length < 17592186044416 then (spec_l5From.l2 k (x5.set ((rd x9 x10) : Int).toNat (wrap64 ((rd x5 (rd x7 x8)) + 1))) (x7 ++ [rd x9 x10]) x8 x9 (wrap64 (x10 + 1)) x363000 x363001 x363002) else (none)) else (none)) else (none)) else (none)) else (none)) else (spec_l5From.l2 k x5 x7 x8 x9 (wrap64 (x10 + 1)) x363000 x363001 x363002)) else (none)) else (none)) else (none)) else (spec_l5From.l1 k x5 x7 (wrap64 (x8 + 1)) x363000 x363001 x363002)
end
def spec_l5From.f (k : Nat) (a0_0 : Int) (a0_1 : Int) (l0_2 : List Int) (a1 : Int) : Option (List Int) := spec_l5From.l0 k a1 (([] : List Int)) 0 a0_0 a0_1 l0_2
def spec_l5From.T16 : Bool × List (List Nat × List Nat) := (true, [([], []), ([], []), ([], []), ([1, 2], [1, 2]), ([3], [3]), ([], []), ([], []), ([], []), ([6, 7], [6, 7]), ([8], [8]), ([5, 9], [5, 9]), ([10], [10]), ([11], [11]), ([0, 4, 0, 1, 2, 3, 4, 5, 6, 7, 8, 9, 10, 11, 12], [0, 4]), ([13, 12, 0, 1, 2, 3, 4, 5, 6, 7, 8, 9, 10, 11, 12], [12, 13])])
def spec_l5From.B16 : List Nat := [0, 0, 0, 6, 14, 0, 0, 0, 192, 448, 992, 2016, 4064, 8191, 16383]
theorem spec_l5From.tab16 : rtab .any (opsOf Try.f136 16) = spec_l5From.T16 := by kernel_rfl
theorem spec_l5From.bits16 : waitsOk spec_l5From.T16.2 spec_l5From.B16 = true := by kernel_rfl
set_option maxHeartbeats 8000000 in
set_option maxRecDepth 100000 in
theorem spec_l5From.calls (k : Nat) (a0_0 : Int) (a0_1 : Int) (A0_2 : Option Addr) (c0_2 : Nat) (l0_2 : List Int) (a1 : Int) (r : List Int) (w : World) (hr0_2 : Kd.C (Kd.int .i64) w A0_2 l0_2.length l0_2) (hc0_2 : l0_2.length ≤ c0_2) (h : spec_l5From.f k a0_0 a0_1 l0_2 a1 = some r) :
  Calls Try.prog 136 #[.agg #[.int .i64 a0_0,.int .i64 a0_1,.slice A0_2 l0_2.length c0_2],.int .i64 a1] w fun e w' => ∃ v0_ : Value,e = .returned (v0_) ∧ Kd.R (Kd.int .i64) 3 w' w.heap.size (fun _ => True) v0_ r ∧ Below w.heap.size w w':=by
 have hu51:=Try.underlying51;have HR0_2:=am hr0_2;have HC0_2:=am hc0_2;clear hr0_2 hc0_2;have HB:=am qq465;have H : (spec_l5From.l0 k a1 (([] : List Int)) 0 a0_0 a0_1 l0_2) = some r:=h;clear h;obtain ⟨y363,hy363⟩ : ∃ y_ : List Int,y_ = (([] : List Int)):=⟨_,rfl⟩
 replace H : (spec_l5From.l0 k a1 y363 0 a0_0 a0_1 l0_2) = some r:=by first | (rw [hy363];with_reducible exact H) | (have H2_:=(Option.bind_some _ _).symm.trans H;rw [hy363];with_reducible exact H2_) | (have H2_:=(Option.bind_some _ _).symm.trans H;with_reducible exact H2_) | with_reducible exact H | (rw [hy363];exact H) | exact H
 have Ny363:=am hy363;clear hy363;have H':=am H;clear H
 go_enter Try.func136,Try.ntmps136
 go_wp2_with (first | ((with_reducible refine gate_dst (N:=2) rfl ?_);refine box_event ?hg (N:=2) ?hd (cs:=#[.int .i64 a0_0,.int .i64 a0_1,.slice A0_2 l0_2.length c0_2]) (t:=51) ?hr ?_;(case hd => rfl);(case hg => rfl);(case hr => exact qq312);intro gb362 hg w3 hbox hb;have BK362:=am (hbox);have GW362:=am ((qq144 : w.heap.size ≤ gb362));have GE362:=am ((qq144 : w.heap.size ≤ gb362));replace HB:=am qq488;clear hb hbox hg) | ((with_reducible refine gate_dst (N:=11) rfl ?_);refine Kd.R_lit (Kd.int .i64) _ 3 ?hg (N:=11) ?hd (xs:=([] : List Int)) (inner:=[]) (ok:=fun _ => True) (okp:=fun _ => True) ?hr ?hp (fun _ hk => hk) trivial (Below.refl _ _) (Nat.le_refl _) (by simp) ?_;(case hd => rfl);(case hg => rfl);(case hr => exact qq312);(case hp => exact qq330);intro v364 w4 ho5 hb hg_ hnew_;clear hg_ hnew_;(first | rw [← Ny363.out] at ho5 | (simp only [Int.reduceToNat] at ho5;rw [← Ny363.out] at ho5));have HO365:=am (Kd.R_lower ho5 (below_size qq160));replace BK362:=am qq381;replace HB:=am (below_step qq160 hb);clear hb ho5))
 go_loopg [5,6] k (fun kq v5 v6 w' => ∃ (x5_1 : List Int) (x6_1 : Int),v6 = .int .i64 x6_1 ∧ Aside0 (spec_l5From.l0 kq a1 x5_1 x6_1 a0_0 a0_1 l0_2 = some r) ∧ Aside0 (kq ≤ k) ∧ Aside0 (Kd.R (Kd.int .i64) 3 w' w.heap.size (fun _ => True) v5 x5_1) ∧ Aside0 (w'.heap[gb362]? = some (.cells #[.int .i64 a0_0,.int .i64 a0_1,(.slice A0_2 l0_2.length c0_2)] 51 (0,0))) ∧ Aside0 (Below w.heap.size w w'))
 case atStart => exact ⟨(y363),(0),qq311,H',⟨Nat.le_refl _⟩,⟨by (with_reducible repeat (first | apply kA | apply kN | apply kD));exact HO365.out⟩,⟨qq235⟩,⟨qq160⟩⟩
 case round =>
  clear H'
  try clear c1
  try clear p2
  obtain ⟨x5_1,x6_1,rfl,HA,HK1,HO_5,BK362,HB⟩:=hrel
  cases gk with
  | zero => exact absurd HA.out (by simp [spec_l5From.l0])
  | succ k1 =>
   have H:=HA.out;clear HA;simp only [spec_l5From.l0] at H
   by_cases c6 : x6_1 < (l0_2.length : Int)
   ·rw [if_pos c6] at H;have c6b0 : decide (x6_1 < (l0_2.length : Int)) = true:=decide_eq_true c6;clear c6
    by_cases c7 : x5_1.length < 17592186044416
    ·rw [if_pos c7] at H;have LMc7:=am c7;clear c7;obtain ⟨y366,hy366⟩ : ∃ y_ : List Int,y_ = (x5_1 ++ [(-1)]):=⟨_,rfl⟩
     replace H : (spec_l5From.l0 k1 a1 y366 (wrap64 (x6_1 + 1)) a0_0 a0_1 l0_2) = some r:=by first | (rw [hy366];with_reducible exact H) | (have H2_:=(Option.bind_some _ _).symm.trans H;rw [hy366];with_reducible exact H2_) | (have H2_:=(Option.bind_some _ _).symm.trans H;with_reducible exact H2_) | with_reducible exact H | (rw [hy366];exact H) | exact H
     have Ny366:=am hy366;clear hy366;have H':=am H;clear H;obtain ⟨hcz8_0,hcz8_1,hcz8_2,hfz8_0,hfz8_1,hfz8_2⟩:=bcl3 BK362.out;go_wp2_with (first | ((with_reducible refine gate_builtin (b:=.append) (xs:=#[.tmp 19,.tmp 20]) rfl ?_);at_builtin;refine Kd.R_append (Kd.int .i64) (w0:=w) w.heap.size rfl (.tmp 19) (.tmp 20) 49 3 (.int .i64 0) 8 rfl Try.underlying49 info3 rfl (by decide) (by omega) u5 x5_1 (-1) [.int .i64 (-1)] (fun _ => True) (fun _ => False) rfl rfl ?aP (fun _ hk => hk.elim) ?aF ?aO ?aB ?aS ?aL ?_;(case aP => exact rfl);(case aB => exact qq160);(case aF => exact qq328);(case aO => exact qq269);(case aS => exact (below_size qq160));(case aL => have:=LMc7.out;omega);intro v367 w9 ho hb hg hat;rw [← Ny366.out] at ho;replace BK362:=am qq344;replace HB:=am (hb);have HO368:=am (ho);clear HO_5;clear ho hb hg hat))
     go_roundg k1
     case measure => have:=HK1.out;omega
     case rel => exact ⟨(y366),(wrap64 (x6_1 + 1)),qq311,H',⟨qq331⟩,⟨by (with_reducible repeat (first | apply kA | apply kN | apply kD));exact HO368.out⟩,⟨qq235⟩,⟨qq160⟩⟩
    ·rw [if_neg c7] at H;exact absurd H (by simp)
   ·rw [if_neg c6] at H;have c6b0 : decide (x6_1 < (l0_2.length : Int)) = false:=decide_eq_false c6;clear c6
    by_cases c10 : 0 ≤ a1
    ·rw [if_pos c10] at H;have c10b0 : decide (0 ≤ a1) = true:=decide_eq_true c10;clear c10
     by_cases c11 : a1 < (x5_1.length : Int)
     ·rw [if_pos c11] at H;have c11b0 : decide (a1 < (x5_1.length : Int)) = true:=decide_eq_true c11;clear c11;obtain ⟨y369,hy369⟩ : ∃ y_ : List Int,y_ = (x5_1.set (a1 : Int).toNat 0):=⟨_,rfl⟩
      replace H : (spec_l5From.l1 k1 y369 (([a1] : List Int)) 0 a0_0 a0_1 l0_2) = some r:=by first | (rw [hy369];with_reducible exact H) | (have H2_:=(Option.bind_some _ _).symm.trans H;rw [hy369];with_reducible exact H2_) | (have H2_:=(Option.bind_some _ _).symm.trans H;with_reducible exact H2_) | with_reducible exact H | (rw [hy369];exact H) | exact H
      have Ny369:=am hy369;clear hy369;obtain ⟨y370,hy370⟩ : ∃ y_ : List Int,y_ = (([a1] : List Int)):=⟨_,rfl⟩
      replace H : (spec_l5From.l1 k1 y369 y370 0 a0_0 a0_1 l0_2) = some r:=by first | (rw [hy370];with_reducible exact H) | (have H2_:=(Option.bind_some _ _).symm.trans H;rw [hy370];with_reducible exact H2_) | (have H2_:=(Option.bind_some _ _).symm.trans H;with_reducible exact H2_) | with_reducible exact H | (rw [hy370];exact H) | exact H
      have Ny370:=am hy370;clear hy370;have H':=am H;clear H;obtain ⟨hcz13_0,hcz13_1,hcz13_2,hfz13_0,hfz13_1,hfz13_2⟩:=bcl3 BK362.out;have p12 : 0 ≤ (a1 : Int):=odt qq309;have q12 : (a1 : Int) < ((x5_1.length : Int) : Int):=odt qq309;obtain ⟨go12,co12,eo12,gb12,gl12,cl12,HG12⟩:=Kd.R_form HO_5.out (by omega);(first | cases eo12 | (injection eo12 with ea_ en_ ec_;(first | subst ea_ | (injection ea_ with ea_;subst ea_));subst ec_;clear en_));have GB12:=am gb12;have GG12:=am HG12;clear gb12 gl12 HG12;obtain ⟨hx12_0,hf12_0⟩:=Kd.R_celln 0 HO_5.out (a1 : Int) p12 q12;replace p12:=eq_true p12;replace q12:=eq_true q12;have HP14:=Kd.R_putg HO_5.out (a1 : Int) 0;go_wp2_with (first | ((with_reducible refine gate_store (t:=3) (p:=24) rfl ?_);refine store_event (t:=3) (p:=24) (v:=?vo_w15) (w1:=(wr.setCell ⟨go12,(a1 : Int).toNat,none⟩ (.int .i64 0))) ?hg ?ho ?hn ?hr ?_;(case ho => rfl);(case hg => rfl);(case hn => rfl);(case hr => exact qq312);intro w15 hw;have hg : wr.grownBy w15 (some go12):=(by rw [hw];exact HP14.2);have hp_ : Kd.R (Kd.int .i64) 3 w15 w.heap.size (fun _ => True) (.slice (some ⟨go12,0,none⟩) x5_1.length co12) y369:=(by rw [hw,Ny369.out];exact HP14.1);clear HP14;replace BK362:=am qq344;replace HO_5:=am (hp_);replace HB:=am ((by rw [hw];exact below_set (HB.out) GB12.out : Below w.heap.size w w15));clear hg hw hp_) | ((with_reducible refine gate_dst (N:=26) rfl ?_);refine Kd.R_lit (Kd.int .i64) _ 3 ?hg (N:=26) ?hd (xs:=([a1] : List Int)) (inner:=[.int .i64 a1]) (ok:=fun _ => True) (okp:=fun _ => True) ?hr ?hp (fun _ hk => hk) trivial (Below.refl _ _) (Nat.le_refl _) (by simp) ?_;(case hd => rfl);(case hg => rfl);(case hr => exact qq312);(case hp => exact qq266);intro v371 w16 ho17 hb hg_ hnew_;clear hg_ hnew_;(first | rw [← Ny370.out] at ho17 | (simp only [Int.reduceToNat] at ho17;rw [← Ny370.out] at ho17));have HO372:=am (Kd.R_lower (Kd.R_new' ho17 (Kd.R_lt qq303)) (below_size qq160));replace HO_5:=am (Kd.R_elder' qq303 (Kd.R_base ho17) hb);replace BK362:=am qq381;replace HB:=am (below_step qq160 hb);clear hb ho17))
      go_loopg [7,8] k1 (fun kq v7 v8 w' => ∃ (x5_2 : List Int) (x7_2 : List Int) (x8_2 : Int),v8 = .int .i64 x8_2 ∧ Aside0 (spec_l5From.l1 kq x5_2 x7_2 x8_2 a0_0 a0_1 l0_2 = some r) ∧ Aside0 (kq ≤ k1) ∧ Aside0 (Kd.R (Kd.int .i64) 3 w' w.heap.size (fun k_ => some k_ ≠ (v7 : Value).ownBlock) (.slice (some ⟨go12,0,none⟩) x5_1.length co12) x5_2) ∧ Aside0 (Kd.R (Kd.int .i64) 3 w' w.heap.size (fun k_ => some k_ ≠ ((.slice (some ⟨go12,0,none⟩) x5_1.length co12) : Value).ownBlock) v7 x7_2) ∧ Aside0 (w'.heap[gb362]? = some (.cells #[.int .i64 a0_0,.int .i64 a0_1,(.slice A0_2 l0_2.length c0_2)] 51 (0,0))) ∧ Aside0 (Below w.heap.size w w'))
      case atStart => exact ⟨(y369),(y370),(0),qq311,H',⟨Nat.le_refl _⟩,⟨qq206⟩,⟨by (with_reducible repeat (first | apply kA | apply kN | apply kD));exact Kd.R_mono HO372.out (fun _ hk => hk.2)⟩,⟨qq235⟩,⟨qq160⟩⟩
      case round =>
       clear H'
       try clear c1
       try clear p1
       try clear q1
       try clear hx1
       try clear p2
       try clear c6
       try clear c6b0
       try clear p6
       try clear c7
       try clear c10
       try clear c10b0
       try clear c11
       try clear c11b0
       try clear p12
       try clear q12
       try clear hx12
       try clear hf12
       try clear c13
       try clear hcz13_0
       try clear hcz13_1
       try clear hcz13_2
       try clear hcz8_0
       try clear hcz8_1
       try clear hcz8_2
       try clear hfz13_0
       try clear hfz13_1
       try clear hfz13_2
       try clear hfz8_0
       try clear hfz8_1
       try clear hfz8_2
       try clear hx12_0
       try clear p12
       try clear p2
       try clear q12
       obtain ⟨x5_2,x7_2,x8_2,rfl,HA,HK2,HO_5,HO_7,BK362,HB⟩:=hrel;have hl5_2:=(Kd.R_reads' HO_5.out).1;rw [hl5_2] at HO_5;(try simp only [hl5_2]);(try simp only [hl5_2] at BK362);(try simp only [hl5_2] at HO_7)
       cases gk with
       | zero => exact absurd HA.out (by simp [spec_l5From.l1])
       | succ k2 =>
        have H:=HA.out;clear HA;simp only [spec_l5From.l1] at H
        by_cases c18 : x8_2 < (x7_2.length : Int)
        ·rw [if_pos c18] at H;have c18b0 : decide (x8_2 < (x7_2.length : Int)) = true:=decide_eq_true c18;clear c18
         by_cases c19 : 0 ≤ x8_2
         ·rw [if_pos c19] at H;have c19b0 : decide (0 ≤ x8_2) = true:=decide_eq_true c19;clear c19;replace H:=bS.mp H;obtain ⟨t374,A200,H⟩:=H;(try dsimp only at H);have A20:=am A200;clear A200;have H':=am H;clear H;obtain ⟨Ao21,co21,eo21⟩:=Kd.R_slice HO_7.out;subst eo21
          try go_wp2
          replace HO_5:=am (Kd.R_drew HO_5.out);replace HO_7:=am (Kd.R_drew HO_7.out);replace BK362:=am (blk_drew BK362.out);replace HB:=am qq519;have p373 : 0 ≤ (x8_2 : Int):=odt qq309;have q373 : x8_2 < (x7_2.length : Int):=odt qq309;obtain ⟨ad373,e373,hx373_0⟩:=Kd.at_int (Kd.R_reads' HO_7.out).2.2 x8_2 p373 q373
          cases e373
          replace p373:=eq_true p373;replace q373:=eq_true q373;refine start_ (n:=7) (S:=fun w' => w'.cell? ⟨gb362,0,none⟩ = some (.int .i64 a0_0) ∧ w'.cell? ⟨gb362,1,none⟩ = some (.int .i64 a0_1) ∧ w'.cell? ⟨gb362,2,none⟩ = some (.slice A0_2 l0_2.length c0_2) ∧ w'.cell? (ad373.add (x8_2).toNat) = some (.int .i64 (rd x7_2 x8_2))) (ds:=[]) #[Z,Z,Z,Z,Z,Z,Z] (by kernel_rfl) rfl rfl ⟨(blk_cell BK362.out 0).trans rfl,(blk_cell BK362.out 1).trans rfl,(blk_cell BK362.out 2).trans rfl,hx373_0⟩ (fun hHeld => ?_)
          generalize wr.drew = w22 at HO_5 HO_7 BK362 HB hx373_0 hHeld ⊢
          refine pV (i:=1) (N:=some 34) #[Z,Y,Z,Z,Z,Z,Z] rfl rfl (by kernel_rfl) ?_
          refine pV (i:=2) (N:=some 35) #[Z,Y,Y,Z,Z,Z,Z] rfl rfl (by kernel_rfl) ?_
          refine pV (i:=3) (N:=some 36) #[Z,Y,Y,Y,Z,Z,Z] rfl rfl (by kernel_rfl) ?_
          refine tV4 (i:=0) (N:=some 33) #[Y,Y,Y,Y,Z,Z,Z] rfl rfl (by kernel_rfl) hHeld ?_
          refine tV4 (i:=4) (N:=some 37) #[Y,Y,Y,Y,Y,Z,Z] rfl rfl (by kernel_rfl) hHeld ?_
          refine one_ (i:=5) (N:=some 38) #[Y,Y,Y,Y,Y,Y,Z] rfl rfl (by kernel_rfl) (by decide) (fun K hK => ?_);refine goes_ Try.func138 (by kernel_rfl) rfl #[.agg #[.int .i64 a0_0,.int .i64 a0_1,.slice A0_2 l0_2.length c0_2],.int .i64 (rd x7_2 x8_2)] (by rfl) rfl rfl qq187 ?_;with_reducible refine (spec_l4Near.calls k2 a0_0 a0_1 _ _ l0_2 (rd x7_2 x8_2) t374 _ ?side1 ?side2 A20.out).mono ?_
          (case side1 => exact qq117);(case side2 => exact qq334)
          rintro e w23 ⟨v375,rfl,ho0,hb⟩
          have HS3_:=(hb.cell (bl _ _ (hHeld.2.2.2))).trans (hHeld.2.2.2);refine ⟨_,rfl,?_⟩;have HO376:=am (Kd.R_lower (Kd.R_new' (Kd.R_new' ho0 (Kd.R_lt qq303)) (Kd.R_lt qq302)) (below_size qq160));replace HO_5:=am (Kd.R_elder' qq303 (Kd.R_base ho0) hb);replace HO_7:=am qq423;replace BK362:=am qq381;replace HB:=am (below_step qq160 hb);(try clear hb);(try clear hb2);(try clear hk);(try clear hi);(try clear ho0);refine hK.out _ _ ⟨(blk_cell BK362.out 0).trans rfl,(blk_cell BK362.out 1).trans rfl,(blk_cell BK362.out 2).trans rfl,HS3_⟩ (fun hHeld => ?_);clear hK K;refine norm_ (a':=?_) ?_ ?_;rotate_left
          ·show Act.put _ (some 38) _ = _
           simp only [Act.put,sA,s0,s1,i64_w,i32_w];rfl
          refine pV (i:=6) (N:=some 9) #[Y,Y,Y,Y,Y,Y,Y] rfl rfl (by kernel_rfl) ?_
          refine done_ (by kernel_rfl) ?_
          try go_wp2
          go_loopg [7,10] k2 (fun kq v7 v10 w' => ∃ (x5_3 : List Int) (x7_3 : List Int) (x10_3 : Int),v10 = .int .i64 x10_3 ∧ Aside0 (spec_l5From.l2 kq x5_3 x7_3 x8_2 t374 x10_3 a0_0 a0_1 l0_2 = some r) ∧ Aside0 (kq ≤ k2) ∧ Aside0 (Kd.R (Kd.int .i64) 3 w' w.heap.size (fun k_ => some k_ ≠ (v7 : Value).ownBlock ∧ some k_ ≠ (v375 : Value).ownBlock) (.slice (some ⟨go12,0,none⟩) x5_2.length co12) x5_3) ∧ Aside0 (Kd.R (Kd.int .i64) 3 w' w.heap.size (fun k_ => some k_ ≠ ((.slice (some ⟨go12,0,none⟩) x5_2.length co12) : Value).ownBlock ∧ some k_ ≠ (v375 : Value).ownBlock) v7 x7_3) ∧ Aside0 (Kd.R (Kd.int .i64) 3 w' w.heap.size (fun k_ => some k_ ≠ ((.slice (some ⟨go12,0,none⟩) x5_2.length co12) : Value).ownBlock ∧ some k_ ≠ (v7 : Value).ownBlock) v375 t374) ∧ Aside0 (w'.heap[gb362]? = some (.cells #[.int .i64 a0_0,.int .i64 a0_1,(.slice A0_2 l0_2.length c0_2)] 51 (0,0))) ∧ Aside0 (Below w.heap.size w w'))
          case atStart => exact ⟨(x5_2),(x7_2),(0),qq311,H',⟨Nat.le_refl _⟩,⟨by (try simp only [hl5_2]);(with_reducible repeat (first | apply kA | apply kN | apply kD));exact HO_5.out⟩,⟨by (try simp only [hl5_2]);(with_reducible repeat (first | apply kA | apply kN | apply kD));exact HO_7.out⟩,⟨by (try simp only [hl5_2]);(with_reducible repeat (first | apply kA | apply kN | apply kD));exact Kd.R_mono HO376.out (fun _ hk => ⟨hk.1.2,hk.2⟩)⟩,⟨by (try simp only [hl5_2]);(with_reducible repeat (first | refine dN ?_ _ | refine dD ?_ | refine dA ?_ _));exact BK362.out⟩,⟨qq160⟩⟩
          case round =>
           clear H'
           try clear c1
           try clear p1
           try clear q1
           try clear hx1
           try clear p2
           try clear p3
           try clear q3
           try clear hx3
           try clear c6
           try clear c6b0
           try clear p6
           try clear c7
           try clear c10
           try clear c10b0
           try clear c11
           try clear c11b0
           try clear p12
           try clear q12
           try clear hx12
           try clear hf12
           try clear c13
           try clear c18
           try clear c18b0
           try clear c19
           try clear c19b0
           try clear hcz13_0
           try clear hcz13_1
           try clear hcz13_2
           try clear hcz8_0
           try clear hcz8_1
           try clear hcz8_2
           try clear hfz13_0
           try clear hfz13_1
           try clear hfz13_2
           try clear hfz8_0
           try clear hfz8_1
           try clear hfz8_2
           try clear hx12_0
           try clear hx373_0
           try clear p1
           try clear p12
           try clear p2
           try clear p373
           try clear p6
           try clear q1
           try clear q12
           try clear q373
           obtain ⟨x5_3,x7_3,x10_3,rfl,HA,HK3,HO_5,HO_7,HO_9,BK362,HB⟩:=hrel;have hl5_3:=(Kd.R_reads' HO_5.out).1;rw [hl5_3] at HO_5;(try simp only [hl5_3]);(try simp only [hl5_3] at BK362);(try simp only [hl5_3] at HO_7);(try simp only [hl5_3] at HO_9)
           cases gk with
           | zero => exact absurd HA.out (by simp [spec_l5From.l2])
           | succ k3 =>
            have H:=HA.out;clear HA;simp only [spec_l5From.l2] at H
            by_cases c24 : x10_3 < (t374.length : Int)
            ·rw [if_pos c24] at H;have c24b0 : decide (x10_3 < (t374.length : Int)) = true:=decide_eq_true c24;clear c24
             by_cases c25 : 0 ≤ x10_3
             ·rw [if_pos c25] at H;have c25b0 : decide (0 ≤ x10_3) = true:=decide_eq_true c25;clear c25
              by_cases c26 : 0 ≤ (rd t374 x10_3)
              ·rw [if_pos c26] at H;have c26b0 : decide (0 ≤ (rd t374 x10_3)) = true:=decide_eq_true c26;clear c26
               by_cases c27 : (rd t374 x10_3) < (x5_3.length : Int)
               ·rw [if_pos c27] at H;have c27b0 : decide ((rd t374 x10_3) < (x5_3.length : Int)) = true:=decide_eq_true c27;clear c27
                by_cases c28 : (rd x5_3 (rd t374 x10_3)) < 0
                ·rw [if_pos c28] at H;have c28b0 : decide ((rd x5_3 (rd t374 x10_3)) < 0) = true:=decide_eq_true c28;clear c28
                 by_cases c29 : 0 ≤ x8_2
                 ·rw [if_pos c29] at H;have c29b0 : decide (0 ≤ x8_2) = true:=decide_eq_true c29;clear c29
                  by_cases c30 : x8_2 < (x7_3.length : Int)
                  ·rw [if_pos c30] at H;have c30b0 : decide (x8_2 < (x7_3.length : Int)) = true:=decide_eq_true c30;clear c30
                   by_cases c31 : 0 ≤ (rd x7_3 x8_2)
                   ·rw [if_pos c31] at H;have c31b0 : decide (0 ≤ (rd x7_3 x8_2)) = true:=decide_eq_true c31;clear c31
                    by_cases c32 : (rd x7_3 x8_2) < (x5_3.length : Int)
                    ·rw [if_pos c32] at H;have c32b0 : decide ((rd x7_3 x8_2) < (x5_3.length : Int)) = true:=decide_eq_true c32;clear c32;obtain ⟨y382,hy382⟩ : ∃ y_ : List Int,y_ = (x5_3.set ((rd t374 x10_3) : Int).toNat (wrap64 ((rd x5_3 (rd x7_3 x8_2)) + 1))):=⟨_,rfl⟩
                     replace H : (if x7_3.length < 17592186044416 then (spec_l5From.l2 k3 y382 (x7_3 ++ [rd t374 x10_3]) x8_2 t374 (wrap64 (x10_3 + 1)) a0_0 a0_1 l0_2) else (none)) = some r:=by first | (rw [hy382];with_reducible exact H) | (have H2_:=(Option.bind_some _ _).symm.trans H;rw [hy382];with_reducible exact H2_) | (have H2_:=(Option.bind_some _ _).symm.trans H;with_reducible exact H2_) | with_reducible exact H | (rw [hy382];exact H) | exact H
                     have Ny382:=am hy382;clear hy382
                     by_cases c34 : x7_3.length < 17592186044416
                     ·rw [if_pos c34] at H;have LMc34:=am c34;clear c34;obtain ⟨y384,hy384⟩ : ∃ y_ : List Int,y_ = (x7_3 ++ [rd t374 x10_3]):=⟨_,rfl⟩
                      replace H : (spec_l5From.l2 k3 y382 y384 x8_2 t374 (wrap64 (x10_3 + 1)) a0_0 a0_1 l0_2) = some r:=by first | (rw [hy384];with_reducible exact H) | (have H2_:=(Option.bind_some _ _).symm.trans H;rw [hy384];with_reducible exact H2_) | (have H2_:=(Option.bind_some _ _).symm.trans H;with_reducible exact H2_) | with_reducible exact H | (rw [hy384];exact H) | exact H
                      have Ny384:=am hy384;clear hy384;have H':=am H;clear H;obtain ⟨Ao35,co35,eo35⟩:=Kd.R_slice HO_9.out;subst eo35;have p377 : 0 ≤ (x10_3 : Int):=odt qq309;have q377 : x10_3 < (t374.length : Int):=odt qq309;obtain ⟨ad377,e377,hx377_0⟩:=Kd.at_int (Kd.R_reads' HO_9.out).2.2 x10_3 p377 q377
                      cases e377
                      replace p377:=eq_true p377;replace q377:=eq_true q377;have p378 : 0 ≤ ((rd t374 x10_3) : Int):=odt qq309;have q378 : (rd t374 x10_3) < (x5_3.length : Int):=odt qq309;obtain ⟨ad378,e378,hx378_0⟩:=Kd.at_int (Kd.R_reads' HO_5.out).2.2 (rd t374 x10_3) p378 q378;obtain rfl : (⟨go12,0,none⟩ : Addr) = ad378:=(by injection e378)
                      (first | simp only [add_plain] at hx378_0 | simp only [add_at] at hx378_0 | simp only [Addr.add,Nat.zero_add] at hx378_0 | skip);replace p378:=eq_true p378;replace q378:=eq_true q378
                      try go_wp2
                      replace HO_5:=am (Kd.R_drew HO_5.out);replace HO_7:=am (Kd.R_drew HO_7.out);replace HO_9:=am (Kd.R_drew HO_9.out);replace BK362:=am (blk_drew BK362.out);replace HB:=am qq519;have p379 : 0 ≤ (x10_3 : Int):=odt qq309;have q379 : x10_3 < (t374.length : Int):=odt qq309;obtain ⟨ad379,e379,hx379_0⟩:=Kd.at_int (Kd.R_reads' HO_9.out).2.2 x10_3 p379 q379;obtain rfl : ad377 = ad379:=(by injection e379)
                      replace p379:=eq_true p379;replace q379:=eq_true q379;obtain ⟨Ao37,co37,eo37⟩:=Kd.R_slice HO_7.out;(first | subst eo37 | (injection eo37 with f1_ f2_ f3_;have f4_:=f1_.symm;have f5_:=f3_.symm;clear f1_ f2_ f3_;subst f4_;subst f5_));have p380 : 0 ≤ (x8_2 : Int):=odt qq309;have q380 : x8_2 < (x7_3.length : Int):=odt qq309;obtain ⟨ad380,e380,hx380_0⟩:=Kd.at_int (Kd.R_reads' HO_7.out).2.2 x8_2 p380 q380
                      cases e380
                      replace p380:=eq_true p380;replace q380:=eq_true q380;have p381 : 0 ≤ ((rd x7_3 x8_2) : Int):=odt qq309;have q381 : (rd x7_3 x8_2) < (x5_3.length : Int):=odt qq309;obtain ⟨ad381,e381,hx381_0⟩:=Kd.at_int (Kd.R_reads' HO_5.out).2.2 (rd x7_3 x8_2) p381 q381;obtain rfl : (⟨go12,0,none⟩ : Addr) = ad381:=(by injection e381)
                      (first | simp only [add_plain] at hx381_0 | simp only [add_at] at hx381_0 | simp only [Addr.add,Nat.zero_add] at hx381_0 | skip);replace p381:=eq_true p381;replace q381:=eq_true q381;have p33 : 0 ≤ ((rd t374 x10_3) : Int):=odt qq309;have q33 : ((rd t374 x10_3) : Int) < ((x5_3.length : Int) : Int):=odt qq309;obtain ⟨hx33_0,hf33_0⟩:=Kd.R_celln 0 HO_5.out ((rd t374 x10_3) : Int) p33 q33;replace p33:=eq_true p33;replace q33:=eq_true q33;have HP38:=Kd.R_putn HO_5.out ((rd t374 x10_3) : Int) (wrap64 ((rd x5_3 (rd x7_3 x8_2)) + 1));rw [← Ny382.out] at HP38;have HQ38:=am HP38;clear HP38;refine start_ (n:=15) (S:=fun w' => w'.cell? (ad377.add (x10_3).toNat) = some (.int .i64 (rd t374 x10_3)) ∧ w'.cell? (ad380.add (x8_2).toNat) = some (.int .i64 (rd x7_3 x8_2)) ∧ w'.cell? ⟨go12,((rd x7_3 x8_2)).toNat,none⟩ = some (.int .i64 (rd x5_3 (rd x7_3 x8_2)))) (ds:=[14]) #[Z,Z,Z,Z,Z,Z,Z,Z,Z,Z,Z,Z,Z,Z,Z] (by kernel_rfl) rfl rfl ⟨hx379_0,hx380_0,hx381_0⟩ (fun hHeld => ?_);refine with_tabW spec_l5From.tab16 spec_l5From.bits16 (fun HT_ HW_ => ?_)
                      generalize wr.drew = w36 at HO_5 HO_7 HO_9 BK362 HB HQ38 hf33_0 hx33_0 hx379_0 hx380_0 hx381_0 hHeld ⊢
                      refine pV (i:=0) (N:=some 53) #[Y,Z,Z,Z,Z,Z,Z,Z,Z,Z,Z,Z,Z,Z,Z] rfl rfl qT ?_
                      refine pV (i:=1) (N:=some 54) #[Y,Y,Z,Z,Z,Z,Z,Z,Z,Z,Z,Z,Z,Z,Z] rfl rfl qT ?_
                      refine pV (i:=2) (N:=some 55) #[Y,Y,Y,Z,Z,Z,Z,Z,Z,Z,Z,Z,Z,Z,Z] rfl rfl qT ?_
                      refine pV (i:=3) (N:=some 56) #[Y,Y,Y,Y,Z,Z,Z,Z,Z,Z,Z,Z,Z,Z,Z] rfl rfl qT ?_
                      refine pV (i:=5) (N:=some 58) #[Y,Y,Y,Y,Z,Y,Z,Z,Z,Z,Z,Z,Z,Z,Z] rfl rfl qT ?_
                      refine pV (i:=6) (N:=some 59) #[Y,Y,Y,Y,Z,Y,Y,Z,Z,Z,Z,Z,Z,Z,Z] rfl rfl qT ?_
                      refine pV (i:=7) (N:=some 60) #[Y,Y,Y,Y,Z,Y,Y,Y,Z,Z,Z,Z,Z,Z,Z] rfl rfl qT ?_
                      refine pV (i:=8) (N:=some 61) #[Y,Y,Y,Y,Z,Y,Y,Y,Y,Z,Z,Z,Z,Z,Z] rfl rfl qT ?_
                      refine tV3 (i:=4) (N:=some 57) #[Y,Y,Y,Y,Y,Y,Y,Y,Y,Z,Z,Z,Z,Z,Z] rfl rfl (take_ofW HT_.out HW_.out (by kernel_rfl)) hHeld ?_
                      refine tV3 (i:=9) (N:=some 62) #[Y,Y,Y,Y,Y,Y,Y,Y,Y,Y,Z,Z,Z,Z,Z] rfl rfl (take_ofW HT_.out HW_.out (by kernel_rfl)) hHeld ?_
                      refine pV (i:=10) (N:=some 63) #[Y,Y,Y,Y,Y,Y,Y,Y,Y,Y,Y,Z,Z,Z,Z] rfl rfl qT ?_
                      refine tV3 (i:=11) (N:=some 64) #[Y,Y,Y,Y,Y,Y,Y,Y,Y,Y,Y,Y,Z,Z,Z] rfl rfl (take_ofW HT_.out HW_.out (by kernel_rfl)) hHeld ?_
                      refine pV (i:=12) (N:=some 65) #[Y,Y,Y,Y,Y,Y,Y,Y,Y,Y,Y,Y,Y,Z,Z] rfl rfl qT ?_
                      refine pV (i:=13) (N:=some 66) #[Y,Y,Y,Y,Y,Y,Y,Y,Y,Y,Y,Y,Y,Y,Z] rfl rfl qT ?_
                      refine last_ (i:=14) (N:=none) #[Y,Y,Y,Y,Y,Y,Y,Y,Y,Y,Y,Y,Y,Y,Y] rfl rfl (one_of HT_.out (by kernel_rfl)) (by decide) (fun K hK => ?_);refine skip_ (w1:=?_) (by rfl) rfl ?_ ?_;rotate_left
                      ·go_simp;rfl
                      refine hK.out _ _ ?_;clear hK K;refine done_ (done_of HT_.out (by kernel_rfl)) ?_;have p383 : 0 ≤ (x10_3 : Int):=odt qq309;have q383 : x10_3 < (t374.length : Int):=odt qq309;obtain ⟨ad383,e383,hx383_0⟩:=Kd.at_int (Kd.R_reads' HO_9.out).2.2 x10_3 p383 q383;obtain rfl : ad377 = ad383:=(by injection e383)
                      have hn383_0 : ad377.block ≠ go12:=Kd.own_blk (fun e_ => by have hk:=HO_9.out.1 _ e_.symm;exact absurd (by first | rfl | simp only [Value.ownBlock]) (hk.1));replace hx383_0:=(cell_far (p:=⟨go12,((rd t374 x10_3) : Int).toNat,none⟩) (by first | (rw [add_block];exact hn383_0) | (show (Addr.add _ _).block ≠ _;rw [add_block];exact hn383_0) | exact hn383_0) (.int .i64 (wrap64 ((rd x5_3 (rd x7_3 x8_2)) + 1)))).trans hx383_0;clear hn383_0;replace p383:=eq_true p383;replace q383:=eq_true q383
                      try go_wp2_with (first | ((with_reducible refine gate_builtin (b:=.append) (xs:=#[.tmp 67,.tmp 72]) rfl ?_);at_builtin;refine Kd.R_append (Kd.int .i64) (w0:=w) w.heap.size rfl (.tmp 67) (.tmp 72) 49 3 (.int .i64 0) 8 rfl Try.underlying49 info3 rfl (by decide) (by omega) (.slice (some ad380) x7_3.length co37) x7_3 (rd t374 x10_3) [.int .i64 (rd t374 x10_3)] (fun k_ => some k_ ≠ (.slice (some ⟨go12,0,none⟩) x5_3.length co12 : Value).ownBlock ∧ some k_ ≠ (.slice (some ad377) t374.length co35 : Value).ownBlock) (fun _ => False) rfl qq312 ?aP (fun _ hk => hk.elim) ?aF ?aO ?aB ?aS ?aL ?_;(case aP => exact rfl);(case aB => exact qq105);(case aF => exact (fun k_ hk => ⟨Kd.fresh' (Kd.R_lt (by (with_reducible repeat (first | apply kA | apply kN | apply kD));exact HQ38.out)) k_ hk,Kd.fresh' (Kd.R_lt (by (with_reducible repeat (first | apply kA | apply kN | apply kD));exact (Kd.R_mono (Kd.R_far (p:=⟨go12,((rd t374 x10_3) : Int).toNat,none⟩) (Kd.R_mono HO_9.out (fun k_ hk => (⟨hk,fun e_ => hk.1 (by rw [e_];rfl)⟩ : _ ∧ k_ ≠ go12))) (fun _ hk => hk.2) (.int .i64 (wrap64 ((rd x5_3 (rd x7_3 x8_2)) + 1)))) (fun _ h_ => h_.1)))) k_ hk⟩));(case aO => exact (by (with_reducible repeat (first | apply kA | apply kN | apply kD));exact Kd.R_mono (Kd.R_far (p:=⟨go12,((rd t374 x10_3) : Int).toNat,none⟩) (Kd.R_mono HO_7.out (fun k_ hk => (⟨hk,fun e_ => hk.1 (by rw [e_];rfl)⟩ : _ ∧ k_ ≠ go12))) (fun _ hk => hk.2) (.int .i64 (wrap64 ((rd x5_3 (rd x7_3 x8_2)) + 1)))) (fun _ hk => ⟨hk.1.1,hk.1.2⟩)));(case aS => exact (below_size qq105));(case aL => have:=LMc34.out;omega);intro v385 w39 ho hb hg hat;rw [← Ny384.out] at ho;replace HO_9:=am (Kd.R_after (ok:=(fun k_ => some k_ ≠ (.slice (some ⟨go12,0,none⟩) x5_3.length co12 : Value).ownBlock)) (by (with_reducible repeat (first | apply kA | apply kN | apply kD));exact Kd.R_mono (Kd.R_far (p:=⟨go12,((rd t374 x10_3) : Int).toNat,none⟩) (Kd.R_mono HO_9.out (fun k_ hk => (⟨hk,fun e_ => hk.1 (by rw [e_];rfl)⟩ : _ ∧ k_ ≠ go12))) (fun _ hk => hk.2) (.int .i64 (wrap64 ((rd x5_3 (rd x7_3 x8_2)) + 1)))) (fun _ hk => ⟨hk.1.1,hk.1.2⟩)) hg hat);replace BK362:=am (blk_grown (g:=gb362) (o:=.cells #[.int .i64 a0_0,.int .i64 a0_1,.slice A0_2 l0_2.length c0_2] 51 (0,0)) (by (with_reducible repeat (first | refine dN ?_ _ | refine dD ?_ | refine dA ?_ _));refine blk_far ?_ (by have h_:=Kd.R_ne HO_5.out BK362.out (by decide);intro e_;exact h_ (by rw [e_];rfl)) _;(with_reducible repeat (first | refine dN ?_ _ | refine dD ?_ | refine dA ?_ _));exact BK362.out) hg (Kd.R_ne HO_7.out BK362.out (by decide)));replace HO_5:=am (Kd.R_after (ok:=(fun k_ => some k_ ≠ (.slice (some ad377) t374.length co35 : Value).ownBlock)) (by (with_reducible repeat (first | apply kA | apply kN | apply kD));exact Kd.R_mono HQ38.out (fun _ hk => ⟨hk.2,hk.1⟩)) hg hat);replace HB:=am (hb);have HO386:=am (ho);clear HO_7;clear ho hb hg hat))
                      (try simp only [← hl5_3])
                      go_roundg k3
                      case measure => have:=HK1.out;have:=HK2.out;have:=HK3.out;omega
                      case rel => exact ⟨(y382),(y384),(wrap64 (x10_3 + 1)),qq311,H',⟨qq310⟩,⟨by (try simp only [hl5_2]);(try simp only [hl5_3]);(with_reducible repeat (first | apply kA | apply kN | apply kD));exact Kd.R_mono HO_5.out (fun _ hk => ⟨hk.2,hk.1⟩)⟩,⟨by (try simp only [hl5_2]);(try simp only [hl5_3]);(with_reducible repeat (first | apply kA | apply kN | apply kD));exact HO386.out⟩,⟨qq190⟩,⟨qq141⟩,⟨qq160⟩⟩
                     ·rw [if_neg c34] at H;exact absurd H (by simp)
                    ·rw [if_neg c32] at H;exact absurd H (by simp)
                   ·rw [if_neg c31] at H;exact absurd H (by simp)
                  ·rw [if_neg c30] at H;exact absurd H (by simp)
                 ·rw [if_neg c29] at H;exact absurd H (by simp)
                ·rw [if_neg c28] at H;have c28b0 : decide ((rd x5_3 (rd t374 x10_3)) < 0) = false:=decide_eq_false c28;clear c28;have H':=am H;clear H;obtain ⟨Ao40,co40,eo40⟩:=Kd.R_slice HO_9.out;subst eo40;have p377 : 0 ≤ (x10_3 : Int):=odt qq309;have q377 : x10_3 < (t374.length : Int):=odt qq309;obtain ⟨ad377,e377,hx377_0⟩:=Kd.at_int (Kd.R_reads' HO_9.out).2.2 x10_3 p377 q377
                 cases e377
                 replace p377:=eq_true p377;replace q377:=eq_true q377;have p378 : 0 ≤ ((rd t374 x10_3) : Int):=odt qq309;have q378 : (rd t374 x10_3) < (x5_3.length : Int):=odt qq309;obtain ⟨ad378,e378,hx378_0⟩:=Kd.at_int (Kd.R_reads' HO_5.out).2.2 (rd t374 x10_3) p378 q378;obtain rfl : (⟨go12,0,none⟩ : Addr) = ad378:=(by injection e378)
                 (first | simp only [add_plain] at hx378_0 | simp only [add_at] at hx378_0 | simp only [Addr.add,Nat.zero_add] at hx378_0 | skip);replace p378:=eq_true p378;replace q378:=eq_true q378;go_wp2
                 (try simp only [← hl5_3])
                 go_roundg k3
                 case measure => have:=HK1.out;have:=HK2.out;have:=HK3.out;omega
                 case rel => exact ⟨(x5_3),(x7_3),(wrap64 (x10_3 + 1)),qq311,H',⟨qq310⟩,⟨by (try simp only [hl5_2]);(try simp only [hl5_3]);(with_reducible repeat (first | apply kA | apply kN | apply kD));exact HO_5.out⟩,⟨by (try simp only [hl5_2]);(try simp only [hl5_3]);(with_reducible repeat (first | apply kA | apply kN | apply kD));exact HO_7.out⟩,⟨qq190⟩,⟨qq141⟩,⟨qq160⟩⟩
               ·rw [if_neg c27] at H;exact absurd H (by simp)
              ·rw [if_neg c26] at H;exact absurd H (by simp)
             ·rw [if_neg c25] at H;exact absurd H (by simp)
            ·rw [if_neg c24] at H;have c24b0 : decide (x10_3 < (t374.length : Int)) = false:=decide_eq_false c24;clear c24;have H':=am H;clear H;obtain ⟨Ao41,co41,eo41⟩:=Kd.R_slice HO_9.out;subst eo41;go_wp2
             (try simp only [← hl5_2,← hl5_3])
             go_roundg k3
             case measure => have:=HK1.out;have:=HK2.out;have:=HK3.out;omega
             case rel => exact ⟨(x5_3),(x7_3),(wrap64 (x8_2 + 1)),qq311,H',⟨qq310⟩,⟨by (try simp only [hl5_2]);(try simp only [hl5_3]);(with_reducible repeat (first | apply kA | apply kN | apply kD));exact Kd.R_mono HO_5.out (fun _ hk => hk.1)⟩,⟨by (try simp only [hl5_2]);(try simp only [hl5_3]);(with_reducible repeat (first | apply kA | apply kN | apply kD));exact Kd.R_mono HO_7.out (fun _ hk => hk.1)⟩,⟨qq141⟩,⟨qq160⟩⟩
         ·rw [if_neg c19] at H;exact absurd H (by simp)
        ·rw [if_neg c18] at H;have c18b0 : decide (x8_2 < (x7_2.length : Int)) = false:=decide_eq_false c18;clear c18;obtain rfl:=Option.some.inj H;obtain ⟨Ao42,co42,eo42⟩:=Kd.R_slice HO_7.out;subst eo42;go_wp2
         go_ret
         exact ⟨_,qq263,qq203,qq160⟩
     ·rw [if_neg c11] at H;exact absurd H (by simp)
    ·rw [if_neg c10] at H;exact absurd H (by simp)

/-! ### spec_Days: function 103 -/
def spec_Days.f (k : Nat) (a0_0 : Int) (a0_1 : Int) (l0_2 : List Int) (a1 : Int) (a2 : Int) : Option (Int) := (spec_IsOpen.f k a0_0 a0_1 l0_2 a1).bind fun t388 => (if t388 = true then ((spec_IsOpen.f k a0_0 a0_1 l0_2 a2).bind fun t389 => (if t389 = true then ((spec_l5From.f k a0_0 a0_1 l0_2 a1).bind fun t390 => (if 0 ≤ a2 then (if a2 < (t390.length : Int) then (some (rd t390 a2)) else (none)) else (none))) else (some (-1)))) else (some (-1)))
set_option maxHeartbeats 8000000 in
set_option maxRecDepth 100000 in
theorem spec_Days.calls (k : Nat) (a0_0 : Int) (a0_1 : Int) (A0_2 : Option Addr) (c0_2 : Nat) (l0_2 : List Int) (a1 : Int) (a2 : Int) (r : Int) (w : World) (hr0_2 : Kd.C (Kd.int .i64) w A0_2 l0_2.length l0_2) (hc0_2 : l0_2.length ≤ c0_2) (h : spec_Days.f k a0_0 a0_1 l0_2 a1 a2 = some r) :
  Calls Try.prog 103 #[.agg #[.int .i64 a0_0,.int .i64 a0_1,.slice A0_2 l0_2.length c0_2],.int .i64 a1,.int .i64 a2] w fun e w' => e = .returned (.int .i64 r) ∧ Below w.heap.size w w':=by
 have hu51:=Try.underlying51;have HR0_2:=am hr0_2;have HC0_2:=am hc0_2;clear hr0_2 hc0_2;have HB:=am qq465;have H : ((spec_IsOpen.f k a0_0 a0_1 l0_2 a1).bind fun t388 => (if t388 = true then ((spec_IsOpen.f k a0_0 a0_1 l0_2 a2).bind fun t389 => (if t389 = true then ((spec_l5From.f k a0_0 a0_1 l0_2 a1).bind fun t390 => (if 0 ≤ a2 then (if a2 < (t390.length : Int) then (some (rd t390 a2)) else (none)) else (none))) else (some (-1)))) else (some (-1)))) = some r:=h;clear h;replace H:=bS.mp H;obtain ⟨t388,A40,H⟩:=H;(try dsimp only at H);have A4:=am A40;clear A40
 by_cases c5 : t388 = true
 ·subst c5;rw [if_pos rfl] at H;replace H:=bS.mp H;obtain ⟨t389,A60,H⟩:=H;(try dsimp only at H);have A6:=am A60;clear A60
  by_cases c7 : t389 = true
  ·subst c7;rw [if_pos rfl] at H;replace H:=bS.mp H;obtain ⟨t390,A80,H⟩:=H;(try dsimp only at H);have A8:=am A80;clear A80
   by_cases c9 : 0 ≤ a2
   ·rw [if_pos c9] at H;have c9b0 : decide (0 ≤ a2) = true:=decide_eq_true c9;clear c9
    by_cases c10 : a2 < (t390.length : Int)
    ·rw [if_pos c10] at H;have c10b0 : decide (a2 < (t390.length : Int)) = true:=decide_eq_true c10;clear c10;obtain rfl:=Option.some.inj H
     go_enter Try.func103,Try.ntmps103
     go_wp2_with (first | ((with_reducible refine gate_dst (N:=3) rfl ?_);refine box_event ?hg (N:=3) ?hd (cs:=#[.int .i64 a0_0,.int .i64 a0_1,.slice A0_2 l0_2.length c0_2]) (t:=51) ?hr ?_;(case hd => rfl);(case hg => rfl);(case hr => exact qq312);intro gb387 hg w11 hbox hb;have BK387:=am (hbox);have GW387:=am qq448;have GE387:=am qq448;replace HB:=am qq488;clear hb hbox hg;obtain ⟨hcz12_0,hcz12_1,hcz12_2,hfz12_0,hfz12_1,hfz12_2⟩:=bcl3 BK387.out) | ((with_reducible refine gate_callee (f:=105) rfl ?_);refine goesL_ (some 9) rfl rfl Try.func105 (by kernel_rfl) rfl #[.agg #[.int .i64 a0_0,.int .i64 a0_1,.slice A0_2 l0_2.length c0_2],.int .i64 a1] rfl qq187 ?_;(with_reducible refine (spec_IsOpen.calls k a0_0 a0_1 _ _ l0_2 a1 true _ ?side1 ?side2 A4.out).mono ?_);(case side1 => exact qq117);(case side2 => exact qq334);rintro e w13 ⟨rfl,hb⟩;refine ⟨_,rfl,?_⟩;replace BK387:=am qq382;replace HB:=am qq495;(try clear hb);(try clear hb2);(try clear hk);(try clear hi);obtain ⟨hcz14_0,hcz14_1,hcz14_2,hfz14_0,hfz14_1,hfz14_2⟩:=bcl3 BK387.out) | (go_at_call 105;(with_reducible refine (spec_IsOpen.calls k a0_0 a0_1 _ _ l0_2 a2 true _ ?side1 ?side2 A6.out).mono ?_);(case side1 => exact qq117);(case side2 => exact qq334);rintro e w15 ⟨rfl,hb⟩;replace BK387:=am qq382;replace HB:=am qq495;(try clear hb);(try clear hb2);(try clear hk);(try clear hi);obtain ⟨hcz16_0,hcz16_1,hcz16_2,hfz16_0,hfz16_1,hfz16_2⟩:=bcl3 BK387.out) | ((with_reducible refine gate_callee (f:=136) rfl ?_);refine goesL_ (some 19) rfl rfl Try.func136 (by kernel_rfl) rfl #[.agg #[.int .i64 a0_0,.int .i64 a0_1,.slice A0_2 l0_2.length c0_2],.int .i64 a1] rfl qq187 ?_;(with_reducible refine (spec_l5From.calls k a0_0 a0_1 _ _ l0_2 a1 t390 _ ?side1 ?side2 A8.out).mono ?_);(case side1 => exact qq117);(case side2 => exact qq334);rintro e w17 ⟨v391,rfl,ho0,hb⟩;refine ⟨_,rfl,?_⟩;have HO392:=am (Kd.R_lower ho0 (below_size qq159));replace BK387:=am qq382;replace HB:=am qq495;(try clear hb);(try clear hb2);(try clear hk);(try clear hi);(try clear ho0);obtain ⟨Ao18,co18,eo18⟩:=Kd.R_slice HO392.out;subst eo18;have p393 : 0 ≤ (a2 : Int):=odt qq309;have q393 : a2 < (t390.length : Int):=odt qq309;obtain ⟨ad393,e393,hx393_0⟩:=Kd.at_int (Kd.R_reads' HO392.out).2.2 a2 p393 q393;cases e393;replace p393:=eq_true p393;replace q393:=eq_true q393))
     go_ret
     exact ⟨qq263,qq159⟩
    ·rw [if_neg c10] at H;exact absurd H (by simp)
   ·rw [if_neg c9] at H;exact absurd H (by simp)
  ·replace c7:=Bool.eq_false_iff.mpr c7;subst c7;have H1 : (some (-1)) = some r:=by rw [if_neg (show ¬ (false = true) by decide)] at H;exact H
   clear H;have H:=H1;clear H1;obtain rfl:=Option.some.inj H
   go_enter Try.func103,Try.ntmps103
   go_wp2_with (first | ((with_reducible refine gate_dst (N:=3) rfl ?_);refine box_event ?hg (N:=3) ?hd (cs:=#[.int .i64 a0_0,.int .i64 a0_1,.slice A0_2 l0_2.length c0_2]) (t:=51) ?hr ?_;(case hd => rfl);(case hg => rfl);(case hr => exact qq312);intro gb387 hg w19 hbox hb;have BK387:=am (hbox);have GW387:=am qq448;have GE387:=am qq448;replace HB:=am qq488;clear hb hbox hg;obtain ⟨hcz20_0,hcz20_1,hcz20_2,hfz20_0,hfz20_1,hfz20_2⟩:=bcl3 BK387.out) | ((with_reducible refine gate_callee (f:=105) rfl ?_);refine goesL_ (some 9) rfl rfl Try.func105 (by kernel_rfl) rfl #[.agg #[.int .i64 a0_0,.int .i64 a0_1,.slice A0_2 l0_2.length c0_2],.int .i64 a1] rfl qq187 ?_;(with_reducible refine (spec_IsOpen.calls k a0_0 a0_1 _ _ l0_2 a1 true _ ?side1 ?side2 A4.out).mono ?_);(case side1 => exact qq117);(case side2 => exact qq334);rintro e w21 ⟨rfl,hb⟩;refine ⟨_,rfl,?_⟩;replace BK387:=am qq382;replace HB:=am qq495;(try clear hb);(try clear hb2);(try clear hk);(try clear hi);obtain ⟨hcz22_0,hcz22_1,hcz22_2,hfz22_0,hfz22_1,hfz22_2⟩:=bcl3 BK387.out) | (go_at_call 105;(with_reducible refine (spec_IsOpen.calls k a0_0 a0_1 _ _ l0_2 a2 false _ ?side1 ?side2 A6.out).mono ?_);(case side1 => exact qq117);(case side2 => exact qq334);rintro e w23 ⟨rfl,hb⟩;replace BK387:=am qq382;replace HB:=am qq495;(try clear hb);(try clear hb2);(try clear hk);(try clear hi)))
   go_ret
   exact ⟨qq263,qq159⟩
 ·replace c5:=Bool.eq_false_iff.mpr c5;subst c5;have H1 : (some (-1)) = some r:=by rw [if_neg (show ¬ (false = true) by decide)] at H;exact H
  clear H;have H:=H1;clear H1;obtain rfl:=Option.some.inj H
  go_enter Try.func103,Try.ntmps103
  go_wp2_with (first | ((with_reducible refine gate_dst (N:=3) rfl ?_);refine box_event ?hg (N:=3) ?hd (cs:=#[.int .i64 a0_0,.int .i64 a0_1,.slice A0_2 l0_2.length c0_2]) (t:=51) ?hr ?_;(case hd => rfl);(case hg => rfl);(case hr => exact qq312);intro gb387 hg w24 hbox hb;have BK387:=am (hbox);have GW387:=am qq448;have GE387:=am qq448;replace HB:=am qq488;clear hb hbox hg;obtain ⟨hcz25_0,hcz25_1,hcz25_2,hfz25_0,hfz25_1,hfz25_2⟩:=bcl3 BK387.out) | ((with_reducible refine gate_callee (f:=105) rfl ?_);refine goesL_ (some 9) rfl rfl Try.func105 (by kernel_rfl) rfl #[.agg #[.int .i64 a0_0,.int .i64 a0_1,.slice A0_2 l0_2.length c0_2],.int .i64 a1] rfl qq187 ?_;(with_reducible refine (spec_IsOpen.calls k a0_0 a0_1 _ _ l0_2 a1 false _ ?side1 ?side2 A4.out).mono ?_);(case side1 => exact qq117);(case side2 => exact qq334);rintro e w26 ⟨rfl,hb⟩;refine ⟨_,rfl,?_⟩;replace BK387:=am qq382;replace HB:=am qq495;(try clear hb);(try clear hb2);(try clear hk);(try clear hi)))
  go_ret
  exact ⟨qq263,qq159⟩

end Go.Proofs.Ytcbkknpmeknppaa.PFnExactPlanFood
