/- Contracts of functions that the law FnExactMoveTo reaches, for its row: lines that the kit's printer wrote for this claim, set shorter by a program of this session (own.py), and what fell in Lean proved anew. Lean checks them. -/
import Derived.Test.YtnghncedinngoaaSFnExactMoveTox0
namespace Go.Proofs.Ytnghncedinngoaa.PFnExactMoveTo
open Go.RowKit Go.Proofs.YtnghncedinngoaaW.PrintWords Go.Proofs.YtnghncedinngoaaW.PrintLast Go.Proofs.YtnghncedinngoaaW.PrintMore
attribute [local go_sem] max2_int min2_int max_two min_two max_three min_three max_four min_four   -- for this text's walks alone
set_option linter.unusedVariables false
set_option linter.unusedSimpArgs false

/-! ### laws_toIntS: function 48 -/
def laws_toIntS.l0 : Nat → List Int → List Int → Int → Option (List Int)
 | 0,_,_,_ => none
 | k + 1,x0,x3,x4 => if x4 < (x0.length : Int) then (if 0 ≤ x4 then (if x4 < (x3.length : Int) then (laws_toIntS.l0 k x0 (x3.set (x4 : Int).toNat (rd x0 x4)) (wrap64 (x4 + 1))) else (none)) else (none)) else (some x3)
def laws_toIntS.f (k : Nat) (l0 : List Int) : Option (List Int) := if 0 ≤ (l0.length : Int) then (if ((l0.length : Int) : Int).toNat ≤ 35184372088832 then (laws_toIntS.l0 k l0 (List.replicate ((l0.length : Int) : Int).toNat 0) 0) else (none)) else (none)
theorem laws_toIntS.mono_l : ∀ k, (∀ y0 y1 y2, LeO (laws_toIntS.l0 k y0 y1 y2) (laws_toIntS.l0 (k + 1) y0 y1 y2))
 | 0 => fun _ _ _ r h => by simp [laws_toIntS.l0] at h
 | k + 1 => by
  have ih0:=laws_toIntS.mono_l k
  ·intro y0 y1 y2
   unfold laws_toIntS.l0
   repeat' first
   | (with_reducible exact ih0 _ _ _)
   | (with_reducible exact LeO.refl _)
   | (with_reducible exact LeO.none _)
   | (with_reducible refine LeO.ite ?_ ?_)
   | (with_reducible refine LeO.bind ?_ (fun _ => ?_))
   | exact ih0 _ _ _
   | exact LeO.none _
   | refine LeO.ite ?_ ?_
   | refine LeO.bind ?_ (fun _ => ?_)
theorem laws_toIntS.mono : ∀ a0 k, LeO (laws_toIntS.f k a0) (laws_toIntS.f (k + 1) a0) := by
 intro a0 k
 have ih0:=laws_toIntS.mono_l k
 unfold laws_toIntS.f
 repeat' first
   | (with_reducible exact ih0 _ _ _)
   | (with_reducible exact LeO.refl _)
   | (with_reducible exact LeO.none _)
   | (with_reducible refine LeO.ite ?_ ?_)
   | (with_reducible refine LeO.bind ?_ (fun _ => ?_))
   | exact ih0 _ _ _
   | exact LeO.none _
   | refine LeO.ite ?_ ?_
   | refine LeO.bind ?_ (fun _ => ?_)
set_option maxHeartbeats 8000000 in
set_option maxRecDepth 100000 in
theorem laws_toIntS.calls (k : Nat) (A0 : Option Addr) (c0 : Nat) (l0 : List Int) (r : List Int) (w : World) (hr0 : Kd.C (Kd.int .i64) w A0 l0.length l0) (hc0 : l0.length ≤ c0) (h : laws_toIntS.f k l0 = some r) :
  Calls Try.prog 48 #[.slice A0 l0.length c0] w fun e w' => ∃ v0_ : Value,e = .returned (v0_) ∧ Kd.R (Kd.int .i64) 3 w' w.heap.size (fun _ => True) v0_ r ∧ Below w.heap.size w w':=by
 have HR0:=am hr0;have HC0:=am hc0;clear hr0 hc0;have HB:=am qq149;have H : (if 0 ≤ (l0.length : Int) then (if ((l0.length : Int) : Int).toNat ≤ 35184372088832 then (laws_toIntS.l0 k l0 (List.replicate ((l0.length : Int) : Int).toNat 0) 0) else (none)) else (none)) = some r:=h;clear h
 by_cases c2 : 0 ≤ (l0.length : Int)
 ·rw [if_pos c2] at H;have c2b0:=eq_true c2;have c2b1 : decide (0 ≤ (l0.length : Int)) = true:=decide_eq_true c2;clear c2
  by_cases c3 : ((l0.length : Int) : Int).toNat ≤ 35184372088832
  ·rw [if_pos c3] at H;have c3b0:=eq_true c3;have c3b1 : decide (((l0.length : Int) : Int).toNat ≤ 35184372088832) = true:=decide_eq_true c3;clear c3;obtain ⟨y181,hy181⟩ : ∃ y_ : List Int,y_ = (List.replicate ((l0.length : Int) : Int).toNat 0):=⟨_,rfl⟩
   replace H : (laws_toIntS.l0 k l0 y181 0) = some r:=by first | (rw [hy181];with_reducible exact H) | (have H2_:=(Option.bind_some _ _).symm.trans H;rw [hy181];with_reducible exact H2_) | (have H2_:=(Option.bind_some _ _).symm.trans H;with_reducible exact H2_) | with_reducible exact H | (rw [hy181];exact H) | exact H
   have Ny181:=am hy181;clear hy181;have H':=am H;clear H
   go_enter Try.func48,Try.ntmps48
   go_wp2_with (first | ((with_reducible refine gate_dst (N:=7) rfl ?_);refine Kd.R_make (Kd.int .i64) _ 3 rfl (N:=7) rfl 43 _ _ rfl (l0.length : Int) rfl rfl Try.underlying43 (.int .i64 0) 8 info3 rfl (by decide) (by omega) 0 (ok:=fun _ => True) (okp:=fun _ => True) rfl (fun _ hk => hk) trivial (odt qq103) (Nat.le_trans (Nat.mul_le_mul_right _ (odt qq103 : (l0.length : Int).toNat ≤ 35184372088832)) (by omega)) (Below.refl _ _) (Nat.le_refl _) ?_;intro v182 w4 ho5 hb hg_ hnew_;clear hg_ hnew_;(first | rw [← Ny181.out] at ho5 | (simp only [Int.reduceToNat] at ho5;rw [← Ny181.out] at ho5));have HO183:=am (Kd.R_lower ho5 (below_size qq80));replace HB:=am qq153;clear hb ho5))
   go_loopg [4] k (fun kq v4 w' => ∃ (x3_1 : List Int) (x4_1 : Int),v4 = .int .i64 x4_1 ∧ Aside0 (laws_toIntS.l0 kq l0 x3_1 x4_1 = some r) ∧ Aside0 (kq ≤ k) ∧ Aside0 (Kd.R (Kd.int .i64) 3 w' w.heap.size (fun _ => True) v182 x3_1) ∧ Aside0 (Below w.heap.size w w'))
   case atStart => exact ⟨(y181),(0),qq105,H',⟨Nat.le_refl _⟩,⟨by (with_reducible repeat (first | apply kA | apply kN | apply kD));exact HO183.out⟩,⟨qq80⟩⟩
   case round =>
    clear H'
    try clear c2
    try clear c2b0
    try clear c2b1
    try clear p2
    try clear c3
    try clear c3b0
    try clear c3b1
    try clear c4
    obtain ⟨x3_1,x4_1,rfl,HA,HK1,HO_3,HB⟩:=hrel
    cases gk with
    | zero => exact absurd HA.out (by simp [laws_toIntS.l0])
    | succ k1 =>
     have H:=HA.out;clear HA;simp only [laws_toIntS.l0] at H
     by_cases c6 : x4_1 < (l0.length : Int)
     ·rw [if_pos c6] at H;have c6b0 : decide (x4_1 < (l0.length : Int)) = true:=decide_eq_true c6;clear c6
      by_cases c7 : 0 ≤ x4_1
      ·rw [if_pos c7] at H;have c7b0 : decide (0 ≤ x4_1) = true:=decide_eq_true c7;clear c7
       by_cases c8 : x4_1 < (x3_1.length : Int)
       ·rw [if_pos c8] at H;have c8b0 : decide (x4_1 < (x3_1.length : Int)) = true:=decide_eq_true c8;clear c8;obtain ⟨y185,hy185⟩ : ∃ y_ : List Int,y_ = (x3_1.set (x4_1 : Int).toNat (rd l0 x4_1)):=⟨_,rfl⟩
        replace H : (laws_toIntS.l0 k1 l0 y185 (wrap64 (x4_1 + 1))) = some r:=by first | (rw [hy185];with_reducible exact H) | (have H2_:=(Option.bind_some _ _).symm.trans H;rw [hy185];with_reducible exact H2_) | (have H2_:=(Option.bind_some _ _).symm.trans H;with_reducible exact H2_) | with_reducible exact H | (rw [hy185];exact H) | exact H
        have Ny185:=am hy185;clear hy185;have H':=am H;clear H;have p184 : 0 ≤ (x4_1 : Int):=odt qq103;have q184 : x4_1 < (l0.length : Int):=odt qq103;obtain ⟨ad184,e184,hx184_0⟩:=Kd.at_int HR0.out x4_1 p184 q184
        cases e184
        replace hx184_0:=(ct HB.out hx184_0 :)
        replace p184:=eq_true p184;replace q184:=eq_true q184;have p9 : 0 ≤ (x4_1 : Int):=odt qq103;have q9 : (x4_1 : Int) < ((x3_1.length : Int) : Int):=odt qq103;obtain ⟨go9,co9,eo9,gb9,gl9,cl9,HG9⟩:=Kd.R_form HO_3.out (by omega);(first | cases eo9 | (injection eo9 with ea_ en_ ec_;(first | subst ea_ | (injection ea_ with ea_;subst ea_));subst ec_;clear en_));have GB9:=am gb9;have GG9:=am HG9;clear gb9 gl9 HG9;obtain ⟨hx9_0,hf9_0⟩:=Kd.R_celln 0 HO_3.out (x4_1 : Int) p9 q9;replace p9:=eq_true p9;replace q9:=eq_true q9;have HP10:=Kd.R_putg HO_3.out (x4_1 : Int) (rd l0 x4_1);go_wp2_with (first | ((with_reducible refine gate_store (t:=3) (p:=20) rfl ?_);refine store_event (t:=3) (p:=20) (v:=?vo_w11) (w1:=(wr.setCell ⟨go9,(x4_1 : Int).toNat,none⟩ (.int .i64 (rd l0 x4_1)))) ?hg ?ho ?hn ?hr ?_;(case ho => rfl);(case hg => rfl);(case hn => rfl);(case hr => exact qq110);intro w11 hw;have hg : wr.grownBy w11 (some go9):=(by rw [hw];exact HP10.2);have hp_ : Kd.R (Kd.int .i64) 3 w11 w.heap.size (fun _ => True) (.slice (some ⟨go9,0,none⟩) x3_1.length co9) y185:=(by rw [hw,Ny185.out];exact HP10.1);clear HP10;replace HO_3:=am (hp_);replace HB:=am ((by rw [hw];exact below_set (HB.out) GB9.out : Below w.heap.size w w11));clear hg hw hp_))
        go_roundg k1
        case measure => have:=HK1.out;omega
        case rel => exact ⟨(y185),(wrap64 (x4_1 + 1)),qq105,H',⟨qq118⟩,⟨qq99⟩,⟨qq80⟩⟩
       ·rw [if_neg c8] at H;exact absurd H (by simp)
      ·rw [if_neg c7] at H;exact absurd H (by simp)
     ·rw [if_neg c6] at H;have c6b0 : decide (x4_1 < (l0.length : Int)) = false:=decide_eq_false c6;clear c6;obtain rfl:=Option.some.inj H;go_wp2
      go_ret
      exact ⟨_,qq93,qq99,qq80⟩
  ·rw [if_neg c3] at H;exact absurd H (by simp)
 ·rw [if_neg c2] at H;exact absurd H (by simp)

/-! ### laws_toTent: function 29 -/
def laws_toTent.f (k : Nat) (a0_0 : Int) (a0_1 : Int) (l0_2 : List Int) : Option (Int × Int × List Int) := (laws_toIntS.f k l0_2).bind fun t189 => (some (a0_0, a0_1, t189))
theorem laws_toTent.mono : ∀ a0 a1 a2 k, LeO (laws_toTent.f k a0 a1 a2) (laws_toTent.f (k + 1) a0 a1 a2) := by
 intro a0 a1 a2 k
 unfold laws_toTent.f
 repeat' first
   | (with_reducible exact laws_toIntS.mono _ _)
   | (with_reducible exact LeO.refl _)
   | (with_reducible exact LeO.none _)
   | (with_reducible refine LeO.ite ?_ ?_)
   | (with_reducible refine LeO.bind ?_ (fun _ => ?_))
   | exact laws_toIntS.mono _ _
   | exact LeO.none _
   | refine LeO.ite ?_ ?_
   | refine LeO.bind ?_ (fun _ => ?_)
set_option maxHeartbeats 8000000 in
set_option maxRecDepth 100000 in
theorem laws_toTent.calls (k : Nat) (a0_0 : Int) (a0_1 : Int) (A0_2 : Option Addr) (c0_2 : Nat) (l0_2 : List Int) (r1 : Int) (r2 : Int) (r3 : List Int) (w : World) (hr0_2 : Kd.C (Kd.int .i64) w A0_2 l0_2.length l0_2) (hc0_2 : l0_2.length ≤ c0_2) (h : laws_toTent.f k a0_0 a0_1 l0_2 = some (r1, r2, r3)) :
  Calls Try.prog 29 #[.agg #[.int .i64 a0_0,.int .i64 a0_1,.slice A0_2 l0_2.length c0_2]] w fun e w' => ∃ v2_ : Value,e = .returned (.agg #[.int .i64 r1,.int .i64 r2,v2_]) ∧ Kd.R (Kd.int .i64) 3 w' w.heap.size (fun _ => True) v2_ r3 ∧ Below w.heap.size w w':=by
 have hu53:=Try.underlying53;have hu45:=Try.underlying45;have HR0_2:=am hr0_2;have HC0_2:=am hc0_2;clear hr0_2 hc0_2;have HB:=am qq149;have H : ((laws_toIntS.f k l0_2).bind fun t189 => (some (a0_0,a0_1,t189))) = some (r1,r2,r3):=h;clear h;replace H:=bS.mp H;obtain ⟨t189,A20,H⟩:=H;replace H : (some (a0_0,a0_1,t189)) = some (r1,r2,r3):=H;have A2:=am A20;clear A20;simp only [Option.some.injEq,Prod.mk.injEq] at H;obtain ⟨rfl,rfl,rfl⟩:=H
 go_enter Try.func29,Try.ntmps29
 go_wp2_with (first | ((with_reducible refine gate_dst (N:=1) rfl ?_);refine box_event ?hg (N:=1) ?hd (cs:=#[.int .i64 a0_0,.int .i64 a0_1,.slice A0_2 l0_2.length c0_2]) (t:=53) ?hr ?_;(case hd => rfl);(case hg => rfl);(case hr => exact qq110);intro gb186 hg w3 hbox hb;have BK186:=am (hbox);have GW186:=am ((qq39 : w.heap.size ≤ gb186));have GE186:=am ((qq39 : w.heap.size ≤ gb186));replace HB:=am qq153;clear hb hbox hg) | ((with_reducible refine gate_dst (N:=2) rfl ?_);refine box_event ?hg (N:=2) ?hd (cs:=#[.int .i64 0,.int .i64 0,.slice none 0 0]) (t:=45) ?hr ?_;(case hd => rfl);(case hg => rfl);(case hr => exact qq110);intro gb187 hg w4 hbox hb;have BK187:=am (hbox);have GW187:=am ((qq22 : w.heap.size ≤ gb187));have GE187:=am ((qq22 : w.heap.size ≤ gb187));replace HB:=am (below_step qq46 hb);have NB186_187:=am ((qq5 : gb186 ≠ gb187));have NB187_186:=am ((qq7 : gb187 ≠ gb186));replace BK186:=am qq124;clear hb hbox hg) | ((with_reducible refine gate_dst (N:=3) rfl ?_);refine box_event ?hg (N:=3) ?hd (cs:=#[.int .i64 0,.int .i64 0,.slice none 0 0]) (t:=45) ?hr ?_;(case hd => rfl);(case hg => rfl);(case hr => exact qq110);intro gb188 hg w5 hbox hb;have BK188:=am (hbox);have GW188:=am ((qq9 : w.heap.size ≤ gb188));have GE188:=am ((qq9 : w.heap.size ≤ gb188));replace HB:=am (below_step qq24 hb);have NB186_188:=am ((qq5 : gb186 ≠ gb188));have NB188_186:=am ((qq7 : gb188 ≠ gb186));replace BK186:=am qq124;have NB187_188:=am ((by rw [hg];exact Nat.ne_of_lt (blk_lt (g:=gb187) (o:=.cells #[.int .i64 0,.int .i64 0,.slice none 0 0] 45 (0,0)) qq91) : gb187 ≠ gb188));have NB188_187:=am ((by rw [hg];exact Nat.ne_of_gt (blk_lt (g:=gb187) (o:=.cells #[.int .i64 0,.int .i64 0,.slice none 0 0] 45 (0,0)) qq91) : gb188 ≠ gb187));replace BK187:=am (blk_below (g:=gb187) (o:=.cells #[.int .i64 0,.int .i64 0,.slice none 0 0] 45 (0,0)) qq91 hb);clear hb hbox hg;have hnb6:=NB186_187.out;have hnc6:=NB187_186.out;have hnb7:=NB186_188.out;have hnc7:=NB188_186.out;obtain ⟨hcz8_0,hcz8_1,hcz8_2,hfz8_0,hfz8_1,hfz8_2⟩:=bcl3 BK186.out;have hnb9:=NB188_187.out;have hnc9:=NB187_188.out;obtain ⟨hcz10_0,hcz10_1,hcz10_2,hfz10_0,hfz10_1,hfz10_2⟩:=bcl3 BK188.out) | ((with_reducible refine gate_callee (f:=48) rfl ?_);refine goesL_ (some 12) rfl rfl Try.func48 (by kernel_rfl) rfl #[.slice A0_2 l0_2.length c0_2] rfl qq48 ?_;(with_reducible refine (laws_toIntS.calls k _ _ l0_2 t189 _ ?side1 ?side2 A2.out).mono ?_);(case side1 => exact Kd.C_below HR0_2.out qq10);(case side2 => exact HC0_2.out);rintro e w11 ⟨v190,rfl,ho0,hb⟩;refine ⟨_,rfl,?_⟩;have HO191:=am (Kd.R_lower ho0 (below_size qq10));replace BK186:=am (blk_below (g:=gb186) (o:=.cells #[.int .i64 a0_0,.int .i64 a0_1,.slice A0_2 l0_2.length c0_2] 53 (0,0)) (by (with_reducible repeat (first | refine dN ?_ _ | refine dD ?_ | refine dA ?_ _));refine blk_far ?_ NB186_188.out _;(with_reducible repeat (first | refine dN ?_ _ | refine dD ?_ | refine dA ?_ _));refine blk_far ?_ NB186_188.out _;(with_reducible repeat (first | refine dN ?_ _ | refine dD ?_ | refine dA ?_ _));exact BK186.out) hb);replace BK187:=am (blk_below (g:=gb187) (o:=.cells #[.int .i64 0,.int .i64 0,.slice none 0 0] 45 (0,0)) (by (with_reducible repeat (first | refine dN ?_ _ | refine dD ?_ | refine dA ?_ _));refine blk_far ?_ NB187_188.out _;(with_reducible repeat (first | refine dN ?_ _ | refine dD ?_ | refine dA ?_ _));refine blk_far ?_ NB187_188.out _;(with_reducible repeat (first | refine dN ?_ _ | refine dD ?_ | refine dA ?_ _));exact BK187.out) hb);replace BK188:=am (blk_below (g:=gb188) (o:=.cells #[.int .i64 a0_0,.int .i64 a0_1,.slice none 0 0] 45 (0,0)) (by (with_reducible repeat (first | refine dN ?_ _ | refine dD ?_ | refine dA ?_ _));refine blk_put (cs:=#[.int .i64 a0_0,.int .i64 0,.slice none 0 0]) ?_ 1 _ rfl;(with_reducible repeat (first | refine dN ?_ _ | refine dD ?_ | refine dA ?_ _));refine blk_put (cs:=#[.int .i64 0,.int .i64 0,.slice none 0 0]) ?_ 0 _ rfl;(with_reducible repeat (first | refine dN ?_ _ | refine dD ?_ | refine dA ?_ _));exact BK188.out) hb);replace HB:=am (below_step qq10 hb);(try clear hb);(try clear hb2);(try clear hk);(try clear hi);(try clear ho0);obtain ⟨Ao12,co12,eo12⟩:=Kd.R_slice HO191.out;subst eo12;obtain ⟨hcz13_0,hcz13_1,hcz13_2,hfz13_0,hfz13_1,hfz13_2⟩:=bcl3 BK188.out;obtain ⟨hcz14_0,hcz14_1,hcz14_2,hfz14_0,hfz14_1,hfz14_2⟩:=bcl3 BK187.out))
 refine bodyPost_ret (results_cell_row rfl _ _ gb187 45 #[.int .i64 a0_0,.int .i64 a0_1,.slice Ao12 t189.length co12] (0,0) _ rfl (by (with_reducible repeat (first | refine dN ?_ _ | refine dD ?_ | refine dA ?_ _));refine blk_put (cs:=#[.int .i64 a0_0,.int .i64 a0_1,.slice none 0 0]) ?_ 2 _ rfl;(with_reducible repeat (first | refine dN ?_ _ | refine dD ?_ | refine dA ?_ _));refine blk_put (cs:=#[.int .i64 a0_0,.int .i64 0,.slice none 0 0]) ?_ 1 _ rfl;(with_reducible repeat (first | refine dN ?_ _ | refine dD ?_ | refine dA ?_ _));refine blk_put (cs:=#[.int .i64 0,.int .i64 0,.slice none 0 0]) ?_ 0 _ rfl;(with_reducible repeat (first | refine dN ?_ _ | refine dD ?_ | refine dA ?_ _));refine blk_far ?_ NB187_188.out _;(with_reducible repeat (first | refine dN ?_ _ | refine dD ?_ | refine dA ?_ _));exact BK187.out) Try.underlying45 rfl (by kernel_rfl)) rfl ?_;exact ⟨_,qq93,by (with_reducible repeat (first | apply kA | apply kN | apply kD));exact Kd.R_mono (Kd.R_far (p:=⟨gb187,2,none⟩) (Kd.R_far (p:=⟨gb187,1,none⟩) (Kd.R_far (p:=⟨gb187,0,none⟩) (Kd.R_far (p:=⟨gb188,2,none⟩) (Kd.R_types (Kd.R_types HO191.out BK188.out (by decide)) BK187.out (by decide)) (fun _ hk => hk.1.2) (.slice Ao12 t189.length co12)) (fun _ hk => hk.2) (.int .i64 a0_0)) (fun _ hk => hk.2) (.int .i64 a0_1)) (fun _ hk => hk.2) (.slice Ao12 t189.length co12)) (fun _ hk => trivial),qq10⟩

/-! ### laws_toTentS: function 8 -/
def laws_toTentS.l0 : Nat → List (S53) → List (S45) → Int → Option ((List (S45)))
 | 0,_,_,_ => none
 | k + 1,x0,x3,x4 => if x4 < (x0.length : Int) then (if 0 ≤ x4 then ((laws_toTent.f k ((rd_T53 x0 x4).f0) ((rd_T53 x0 x4).f1) ((rd_T53 x0 x4).f2)).bind fun bt196 => (if x4 < (x3.length : Int) then (laws_toTentS.l0 k x0 (x3.set (x4 : Int).toNat (⟨bt196.1,bt196.2.1,bt196.2.2⟩ : S45)) (wrap64 (x4 + 1))) else (none))) else (none)) else (some x3)
def laws_toTentS.f (k : Nat) (l0 : List (S53)) : Option ((List (S45))) := if 0 ≤ (l0.length : Int) then (if ((l0.length : Int) : Int).toNat ≤ 7036874417766 then (laws_toTentS.l0 k l0 (List.replicate ((l0.length : Int) : Int).toNat z45) 0) else (none)) else (none)
theorem laws_toTentS.mono_l : ∀ k, (∀ y0 y1 y2, LeO (laws_toTentS.l0 k y0 y1 y2) (laws_toTentS.l0 (k + 1) y0 y1 y2))
 | 0 => fun _ _ _ r h => by simp [laws_toTentS.l0] at h
 | k + 1 => by
  have ih0:=laws_toTentS.mono_l k
  ·intro y0 y1 y2
   unfold laws_toTentS.l0
   repeat' first
   | (with_reducible exact ih0 _ _ _)
   | (with_reducible exact laws_toTent.mono _ _ _ _)
   | (with_reducible exact LeO.refl _)
   | (with_reducible exact LeO.none _)
   | (with_reducible refine LeO.ite ?_ ?_)
   | (with_reducible refine LeO.bind ?_ (fun _ => ?_))
   | exact ih0 _ _ _
   | exact laws_toTent.mono _ _ _ _
   | exact LeO.none _
   | refine LeO.ite ?_ ?_
   | refine LeO.bind ?_ (fun _ => ?_)
theorem laws_toTentS.mono : ∀ a0 k, LeO (laws_toTentS.f k a0) (laws_toTentS.f (k + 1) a0) := by
 intro a0 k
 have ih0:=laws_toTentS.mono_l k
 unfold laws_toTentS.f
 repeat' first
   | (with_reducible exact ih0 _ _ _)
   | (with_reducible exact laws_toTent.mono _ _ _ _)
   | (with_reducible exact LeO.refl _)
   | (with_reducible exact LeO.none _)
   | (with_reducible refine LeO.ite ?_ ?_)
   | (with_reducible refine LeO.bind ?_ (fun _ => ?_))
   | exact ih0 _ _ _
   | exact laws_toTent.mono _ _ _ _
   | exact LeO.none _
   | refine LeO.ite ?_ ?_
   | refine LeO.bind ?_ (fun _ => ?_)
set_option maxHeartbeats 8000000 in
set_option maxRecDepth 100000 in
theorem laws_toTentS.calls (k : Nat) (A0 : Option Addr) (c0 : Nat) (l0 : List (S53)) (r : List (S45)) (w : World) (hr0 : Kd.C k53 w A0 l0.length l0) (hc0 : l0.length ≤ c0) (h : laws_toTentS.f k l0 = some r) :
  Calls Try.prog 8 #[.slice A0 l0.length c0] w fun e w' => ∃ v0_ : Value,e = .returned (v0_) ∧ Kd.S k45 45 w' w.heap.size (fun _ => True) v0_ r ∧ Below w.heap.size w w':=by
 have hu53:=Try.underlying53;have hu45:=Try.underlying45;have HR0:=am hr0;have HC0:=am hc0;clear hr0 hc0;have HB:=am qq149;have H : (if 0 ≤ (l0.length : Int) then (if ((l0.length : Int) : Int).toNat ≤ 7036874417766 then (laws_toTentS.l0 k l0 (List.replicate ((l0.length : Int) : Int).toNat z45) 0) else (none)) else (none)) = some r:=h;clear h
 by_cases c2 : 0 ≤ (l0.length : Int)
 ·rw [if_pos c2] at H;have c2b0:=eq_true c2;have c2b1 : decide (0 ≤ (l0.length : Int)) = true:=decide_eq_true c2;clear c2
  by_cases c3 : ((l0.length : Int) : Int).toNat ≤ 7036874417766
  ·rw [if_pos c3] at H;have c3b0:=eq_true c3;have c3b1 : decide (((l0.length : Int) : Int).toNat ≤ 7036874417766) = true:=decide_eq_true c3;clear c3;obtain ⟨y192,hy192⟩ : ∃ y_ : List (S45),y_ = (List.replicate ((l0.length : Int) : Int).toNat z45):=⟨_,rfl⟩
   replace H : (laws_toTentS.l0 k l0 y192 0) = some r:=by first | (rw [hy192];with_reducible exact H) | (have H2_:=(Option.bind_some _ _).symm.trans H;rw [hy192];with_reducible exact H2_) | (have H2_:=(Option.bind_some _ _).symm.trans H;with_reducible exact H2_) | with_reducible exact H | (rw [hy192];exact H) | exact H
   have Ny192:=am hy192;clear hy192;have H':=am H;clear H
   go_enter Try.func8,Try.ntmps8
   go_wp2_with (first | ((with_reducible refine gate_dst (N:=7) rfl ?_);refine Kd.S_make k45 _ 45 rfl (N:=7) rfl 24 _ _ rfl (l0.length : Int) rfl rfl Try.underlying24 (.agg #[(.int .i64 0),(.int .i64 0),(.slice none 0 0)]) 40 info45 rfl (by decide) (by omega) z45 (ok:=fun _ => True) (okp:=fun _ => True) (k45_mkM _ _ _ z45 (Kd.R_nil _ _ _ _ _)) (fun _ hk => hk) trivial (odt qq103) (Nat.le_trans (Nat.mul_le_mul_right _ (odt qq103 : (l0.length : Int).toNat ≤ 7036874417766)) (by omega)) (Below.refl _ _) (Nat.le_refl _) ?_;intro v193 w4 ho5 hb hg_ hnew_;clear hg_ hnew_;(first | rw [← Ny192.out] at ho5 | (simp only [Int.reduceToNat] at ho5;rw [← Ny192.out] at ho5));have HO194:=am (Kd.S_lower ho5 (below_size qq80));replace HB:=am qq153;clear hb ho5))
   go_loopg [4] k (fun kq v4 w' => ∃ (x3_1 : List (S45)) (x4_1 : Int),v4 = .int .i64 x4_1 ∧ Aside0 (laws_toTentS.l0 kq l0 x3_1 x4_1 = some r) ∧ Aside0 (kq ≤ k) ∧ Aside0 (Kd.S k45 45 w' w.heap.size (fun _ => True) v193 x3_1) ∧ Aside0 (Below w.heap.size w w'))
   case atStart => exact ⟨(y192),(0),qq105,H',⟨Nat.le_refl _⟩,⟨by (with_reducible repeat (first | apply Kd.S_alloc | apply Kd.S_drewN | apply Kd.S_drew));exact HO194.out⟩,⟨qq80⟩⟩
   case round =>
    clear H'
    try clear c2
    try clear c2b0
    try clear c2b1
    try clear p2
    try clear c3
    try clear c3b0
    try clear c3b1
    obtain ⟨x3_1,x4_1,rfl,HA,HK1,HO_3,HB⟩:=hrel
    cases gk with
    | zero => exact absurd HA.out (by simp [laws_toTentS.l0])
    | succ k1 =>
     have H:=HA.out;clear HA;simp only [laws_toTentS.l0] at H
     by_cases c6 : x4_1 < (l0.length : Int)
     ·rw [if_pos c6] at H;have c6b0 : decide (x4_1 < (l0.length : Int)) = true:=decide_eq_true c6;clear c6
      by_cases c7 : 0 ≤ x4_1
      ·rw [if_pos c7] at H;have c7b0 : decide (0 ≤ x4_1) = true:=decide_eq_true c7;clear c7;replace H:=bS.mp H;obtain ⟨⟨t196,t197,t198⟩,A80,H⟩:=H;replace H : (if x4_1 < (x3_1.length : Int) then (laws_toTentS.l0 k1 l0 (x3_1.set (x4_1 : Int).toNat (⟨t196,t197,t198⟩ : S45)) (wrap64 (x4_1 + 1))) else (none)) = some r:=H;have A8:=am A80;clear A80
       by_cases c9 : x4_1 < (x3_1.length : Int)
       ·rw [if_pos c9] at H;have c9b0 : decide (x4_1 < (x3_1.length : Int)) = true:=decide_eq_true c9;clear c9;obtain ⟨y201,hy201⟩ : ∃ y_ : List (S45),y_ = (x3_1.set (x4_1 : Int).toNat (⟨t196,t197,t198⟩ : S45)):=⟨_,rfl⟩
        replace H : (laws_toTentS.l0 k1 l0 y201 (wrap64 (x4_1 + 1))) = some r:=by first | (rw [hy201];with_reducible exact H) | (have H2_:=(Option.bind_some _ _).symm.trans H;rw [hy201];with_reducible exact H2_) | (have H2_:=(Option.bind_some _ _).symm.trans H;with_reducible exact H2_) | with_reducible exact H | (rw [hy201];exact H) | exact H
        have Ny201:=am hy201;clear hy201;have H':=am H;clear H;have p195 : 0 ≤ (x4_1 : Int):=odt qq103;have q195 : x4_1 < (l0.length : Int):=odt qq103;obtain ⟨ad195,A195_2,c195_2,e195,hx195_0,hx195_1,hx195_2,hl195_2,hi195_2⟩:=at_T53 HR0.out x4_1 p195 q195
        cases e195
        replace hx195_0:=(ct HB.out hx195_0 :)
        replace hx195_1:=(ct HB.out hx195_1 :)
        replace hx195_2:=(ct HB.out hx195_2 :)
        have HR195_2:=am hi195_2;have HC195_2:=am hl195_2;clear hi195_2 hl195_2;replace p195:=eq_true p195;replace q195:=eq_true q195;go_wp2_with (first | ((with_reducible refine gate_callee (f:=29) rfl ?_);refine goesL_ (some 20) rfl rfl Try.func29 (by kernel_rfl) rfl #[.agg #[.int .i64 ((rd_T53 l0 x4_1).f0),.int .i64 ((rd_T53 l0 x4_1).f1),.slice A195_2 ((rd_T53 l0 x4_1).f2).length c195_2]] rfl qq48 ?_;(with_reducible refine (laws_toTent.calls k1 ((rd_T53 l0 x4_1).f0) ((rd_T53 l0 x4_1).f1) _ _ ((rd_T53 l0 x4_1).f2) t196 t197 t198 _ ?side1 ?side2 A8.out).mono ?_);(case side1 => repeat (first | exact (Kd.C_below HR195_2.out HB.out) | (with_reducible refine cA ?_ _) | (with_reducible refine cN ?_ _) | (with_reducible refine cD ?_)));(case side2 => exact HC195_2.out);rintro e w11 ⟨v199,rfl,ho0,hb⟩;refine ⟨_,rfl,?_⟩;have hst_v199 : ∀ (a_ : Addr) (m_ : Mode) (w_ : World),Sem.run Try.prog (store a_ v199 m_) w_ = stored Try.prog w_ a_ v199 m_:=(by obtain ⟨A_,c_,e_⟩:=Kd.R_slice ho0;intro a_ m_ w_;rw [e_];exact run_store_slice ..);replace HO_3:=am (Kd.S_elder' qq82 (Kd.R_base ho0) hb);have HO200:=am (Kd.R_lower ho0 (below_size qq80));replace HB:=am qq153;(try clear hb);(try clear hb2);(try clear hk);(try clear hi);(try clear ho0);have p10 : 0 ≤ (x4_1 : Int):=odt qq103;have q10 : (x4_1 : Int) < ((x3_1.length : Int) : Int):=odt qq103;obtain ⟨go10,co10,eo10,gb10,gl10,cl10,HG10⟩:=Kd.S_form HO_3.out (by omega);(first | cases eo10 | (injection eo10 with ea_ en_ ec_;(first | subst ea_ | (injection ea_ with ea_;subst ea_));subst ec_;clear en_));have GB10:=am gb10;have GG10:=am HG10;clear gb10 gl10 HG10;obtain ⟨_,ce10,hcl10,hM10,hcc10,hfr10,_,_⟩:=Kd.S_elem HO_3.out z45 (x4_1 : Int) p10 q10;obtain ⟨ve10_2,rfl,ge10_2⟩:=k45_openM hM10;have hx10_0 : w11.cell? ⟨go10,(x4_1 : Int).toNat * 3,none⟩ = some (.int .i64 ((rd_T45 x3_1 x4_1).f0)):=hcc10 0 _ rfl;have hx10_1 : w11.cell? ⟨go10,(x4_1 : Int).toNat * 3 + 1,none⟩ = some (.int .i64 ((rd_T45 x3_1 x4_1).f1)):=hcc10 1 _ rfl;have hx10_2 : w11.cell? ⟨go10,(x4_1 : Int).toNat * 3 + 2,none⟩ = some (ve10_2):=hcc10 2 _ rfl;have hf10_0 : w11.frozen? ⟨go10,(x4_1 : Int).toNat * 3,none⟩ = false:=hfr10 0;have hf10_1 : w11.frozen? ⟨go10,(x4_1 : Int).toNat * 3 + 1,none⟩ = false:=hfr10 1;have hf10_2 : w11.frozen? ⟨go10,(x4_1 : Int).toNat * 3 + 2,none⟩ = false:=hfr10 2;clear hcl10 hcc10 hfr10;(try clear hM10);replace p10:=eq_true p10;replace q10:=eq_true q10;have n_:=am (Kd.S_mono (ok':=(fun k_ => some k_ ≠ (v199 : Value).ownBlock)) HO_3.out (fun k_ hk => hk.2));clear HO_3;have HO_3:=n_;clear n_;have HX12:=am (show Kd.S k45 45 w11 w.heap.size (fun k_ => ((fun _ => True)) k_ ∧ ¬ ((fun k_ => some k_ = (v199 : Value).ownBlock)) k_) (.slice (some ⟨go10,0,none⟩) x3_1.length co10) x3_1 from (by (with_reducible repeat (first | apply Kd.S_alloc | apply Kd.S_drewN | apply Kd.S_drew));exact Kd.S_mono HO_3.out (fun k_ hk => ⟨trivial,fun e_ => hk e_⟩)));obtain ⟨oki12,ce12,hcl12,hM12,hcc12,hfr12,hoki12,hH12⟩:=Kd.S_elem HX12.out z45 (x4_1 : Int) (odt qq103) qq12;obtain ⟨ve12_2,rfl,ge12_2⟩:=k45_openM hM12;have HP12:=Kd.S_seg hH12 (odt qq103) qq12 (seg:=[.int .i64 t196,.int .i64 t197,v199]) (j:=0) (show 3 ≤ 3 from by decide) (x':=(⟨t196,t197,t198⟩ : S45)) (k45_mkM _ _ _ (⟨t196,t197,t198⟩ : S45) (Kd.R_mono (Kd.R_tight rfl (Kd.R_mono (ok':=fun k_ => ((fun _ => True)) k_ ∧ k_ ≠ go10) (Kd.R_apart' (HO200.out) (Kd.S_typed HO_3.out) (by decide)) (fun k_ hk => ⟨trivial,fun e_ => (hk.2) (by rw [e_];rfl)⟩))) (fun _ h_ => Or.inr (h_)))) (fun _ hk => hk) (fun k_ hk_ => ((Kd.R_mono (ok':=fun k_ => ((fun _ => True)) k_ ∧ k_ ≠ go10) (Kd.R_apart' (HO200.out) (Kd.S_typed HO_3.out) (by decide)) (fun k_ hk => ⟨trivial,fun e_ => (hk.2) (by rw [e_];rfl)⟩))).1 k_ hk_.symm);have hx12_0:=hcc12 0 _ rfl;(try simp only [show (k45).sz = 3 from rfl,Nat.mul_one,Nat.add_zero] at hx12_0);have hf12_0:=hfr12 0;(try simp only [show (k45).sz = 3 from rfl,Nat.mul_one,Nat.add_zero] at hf12_0);have hx12_1:=hcc12 1 _ rfl;(try simp only [show (k45).sz = 3 from rfl,Nat.mul_one,Nat.add_zero] at hx12_1);have hf12_1:=hfr12 1;(try simp only [show (k45).sz = 3 from rfl,Nat.mul_one,Nat.add_zero] at hf12_1);have hx12_2:=hcc12 2 _ rfl;(try simp only [show (k45).sz = 3 from rfl,Nat.mul_one,Nat.add_zero] at hx12_2);have hf12_2:=hfr12 2;(try simp only [show (k45).sz = 3 from rfl,Nat.mul_one,Nat.add_zero] at hf12_2);clear hcl12 hcc12 hfr12 hM12 hoki12 hH12) | ((with_reducible refine gate_store (t:=45) (p:=21) rfl ?_);refine store_event (t:=45) (p:=21) (v:=?vo_w13) (w1:=(((w11.setCell ⟨go10,(x4_1 : Int).toNat * 3,none⟩ (.int .i64 t196)).setCell ⟨go10,(x4_1 : Int).toNat * 3 + 1,none⟩ (.int .i64 t197)).setCell ⟨go10,(x4_1 : Int).toNat * 3 + 2,none⟩ (v199))) ?hg ?ho ?hn ?hr ?_;(case ho => rfl);(case hg => rfl);(case hn => rfl);(case hr => first | (go_simp;done) | (go_simp;rfl) | (obtain ⟨A_,c_,e_⟩:=Kd.R_slice HO200.out;subst e_;first | (go_simp;done) | (go_simp;rfl)));intro w13 hw;have hg : w11.grownBy w13 (some go10):=(by rw [hw];exact HP12.2);have hp_ : Kd.S k45 45 w13 w.heap.size (fun _ => True) (.slice (some ⟨go10,0,none⟩) x3_1.length co10) y201:=(by rw [hw,Ny201.out];exact HP12.1);clear HP12;replace HO_3:=am (hp_);replace HB:=am ((by rw [hw];exact below_set (below_set (below_set (HB.out) GB10.out) GB10.out) GB10.out : Below w.heap.size w w13));clear HO200;clear hg hw hp_))
        go_roundg k1
        case measure => have:=HK1.out;omega
        case rel => exact ⟨(y201),(wrap64 (x4_1 + 1)),qq105,H',⟨qq118⟩,⟨qq82⟩,⟨qq80⟩⟩
       ·rw [if_neg c9] at H;exact absurd H (by simp)
      ·rw [if_neg c7] at H;exact absurd H (by simp)
     ·rw [if_neg c6] at H;have c6b0 : decide (x4_1 < (l0.length : Int)) = false:=decide_eq_false c6;clear c6;obtain rfl:=Option.some.inj H;go_wp2
      go_ret
      exact ⟨_,qq93,qq82,qq80⟩
  ·rw [if_neg c3] at H;exact absurd H (by simp)
 ·rw [if_neg c2] at H;exact absurd H (by simp)

/-! ### impl_InRange: function 41 -/
def impl_InRange.f (a0 : Int) (a1 : Int) (a2 : Int) : Option (Bool) := if a1 ≤ a0 then (some (decide (a0 ≤ a2))) else (some false)
set_option maxHeartbeats 8000000 in
set_option maxRecDepth 100000 in
theorem impl_InRange.calls (a0 : Int) (a1 : Int) (a2 : Int) (r : Bool) (w : World) (h : impl_InRange.f a0 a1 a2 = some r) :
  Calls Try.prog 41 #[.int .i64 a0,.int .i64 a1,.int .i64 a2] w fun e w' => e = .returned (.bool r) ∧ Drawn0 w w':=by
 have H : (if a1 ≤ a0 then (some (decide (a0 ≤ a2))) else (some false)) = some r:=h;clear h
 by_cases c4 : a1 ≤ a0
 ·rw [if_pos c4] at H;have c4b0 : decide (a1 ≤ a0) = true:=decide_eq_true c4;clear c4;obtain rfl:=Option.some.inj H
  go_enter Try.func41,Try.ntmps41
  go_wp2
  go_ret
  exact ⟨qq105,qq101⟩
 ·rw [if_neg c4] at H;have c4b0 : decide (a1 ≤ a0) = false:=decide_eq_false c4;clear c4;obtain rfl:=Option.some.inj H
  go_enter Try.func41,Try.ntmps41
  go_wp2
  go_ret
  exact ⟨qq105,qq101⟩

/-! ### impl_placeOf: function 31 -/
def impl_placeOf.l0 : Nat → Int → List Int → Int → Int → Option (Int)
 | 0,_,_,_,_ => none
 | k + 1,x1,x7,x8,x9 => if x9 < x8 then (if 0 ≤ x9 then (if x9 < (x7.length : Int) then (if (rd x7 x9) = x1 then (some x9) else (impl_placeOf.l0 k x1 x7 x8 (wrap64 (x9 + 1)))) else (none)) else (none)) else (some (-1))
def impl_placeOf.f (k : Nat) (l0 : List Int) (a1 : Int) : Option (Int) := impl_placeOf.l0 k a1 l0 (l0.length : Int) 0
theorem impl_placeOf.mono_l : ∀ k, (∀ y0 y1 y2 y3, LeO (impl_placeOf.l0 k y0 y1 y2 y3) (impl_placeOf.l0 (k + 1) y0 y1 y2 y3))
 | 0 => fun _ _ _ _ r h => by simp [impl_placeOf.l0] at h
 | k + 1 => by
  have ih0:=impl_placeOf.mono_l k
  ·intro y0 y1 y2 y3
   unfold impl_placeOf.l0
   repeat' first
   | (with_reducible exact ih0 _ _ _ _)
   | (with_reducible exact LeO.refl _)
   | (with_reducible exact LeO.none _)
   | (with_reducible refine LeO.ite ?_ ?_)
   | (with_reducible refine LeO.bind ?_ (fun _ => ?_))
   | exact ih0 _ _ _ _
   | exact LeO.none _
   | refine LeO.ite ?_ ?_
   | refine LeO.bind ?_ (fun _ => ?_)
theorem impl_placeOf.mono : ∀ a0 a1 k, LeO (impl_placeOf.f k a0 a1) (impl_placeOf.f (k + 1) a0 a1) := by
 intro a0 a1 k
 have ih0:=impl_placeOf.mono_l k
 unfold impl_placeOf.f
 repeat' first
   | (with_reducible exact ih0 _ _ _ _)
   | (with_reducible exact LeO.refl _)
   | (with_reducible exact LeO.none _)
   | (with_reducible refine LeO.ite ?_ ?_)
   | (with_reducible refine LeO.bind ?_ (fun _ => ?_))
   | exact ih0 _ _ _ _
   | exact LeO.none _
   | refine LeO.ite ?_ ?_
   | refine LeO.bind ?_ (fun _ => ?_)
set_option maxHeartbeats 8000000 in
set_option maxRecDepth 100000 in
theorem impl_placeOf.calls (k : Nat) (A0 : Option Addr) (c0 : Nat) (l0 : List Int) (a1 : Int) (r : Int) (w : World) (hr0 : Kd.C (Kd.int .i64) w A0 l0.length l0) (hc0 : l0.length ≤ c0) (h : impl_placeOf.f k l0 a1 = some r) :
  Calls Try.prog 31 #[.slice A0 l0.length c0,.int .i64 a1] w fun e w' => e = .returned (.int .i64 r) ∧ Drawn0 w w':=by
 have HR0:=am hr0;have HC0:=am hc0;clear hr0 hc0;have H : (impl_placeOf.l0 k a1 l0 (l0.length : Int) 0) = some r:=h;clear h;have H':=am H;clear H
 go_enter Try.func31,Try.ntmps31
 go_wp2
 go_loopg [9] k (fun kq v9 w' => ∃ (x9_1 : Int),v9 = .int .i64 x9_1 ∧ Aside0 (impl_placeOf.l0 kq a1 l0 (l0.length : Int) x9_1 = some r) ∧ Aside0 (kq ≤ k) ∧ Drawn0 w w')
 case atStart => exact ⟨(0),qq105,H',⟨Nat.le_refl _⟩,qq101⟩
 case round =>
  clear H'
  try clear p2
  obtain ⟨x9_1,rfl,HA,HK1,⟨m1,rfl⟩⟩:=hrel
  cases gk with
  | zero => exact absurd HA.out (by simp [impl_placeOf.l0])
  | succ k1 =>
   have H:=HA.out;clear HA;simp only [impl_placeOf.l0] at H
   by_cases c3 : x9_1 < (l0.length : Int)
   ·rw [if_pos c3] at H;have c3b0 : decide (x9_1 < (l0.length : Int)) = true:=decide_eq_true c3;clear c3
    by_cases c4 : 0 ≤ x9_1
    ·rw [if_pos c4] at H;have c4b0 : decide (0 ≤ x9_1) = true:=decide_eq_true c4;clear c4
     by_cases c5 : x9_1 < (l0.length : Int)
     ·rw [if_pos c5] at H;have c5b0 : decide (x9_1 < (l0.length : Int)) = true:=decide_eq_true c5;clear c5
      by_cases c6 : (rd l0 x9_1) = a1
      ·rw [if_pos c6] at H;have c6b0 : ((rd l0 x9_1) == a1) = true:=beq_iff_eq.mpr c6;have c6b1 : ((rd l0 x9_1) != a1) = false:=bne_eq_false_iff_eq.mpr c6;clear c6;obtain rfl:=Option.some.inj H;have p202 : 0 ≤ (x9_1 : Int):=odt qq103;have q202 : x9_1 < (l0.length : Int):=odt qq103;obtain ⟨ad202,e202,hx202_0⟩:=Kd.at_int HR0.out x9_1 p202 q202
       cases e202
       replace p202:=eq_true p202;replace q202:=eq_true q202;go_wp2
       go_ret
       exact ⟨qq105,qq101⟩
      ·rw [if_neg c6] at H;have c6b0 : ((rd l0 x9_1) == a1) = false:=beq_eq_false_iff_ne.mpr c6;have c6b1 : ((rd l0 x9_1) != a1) = true:=bne_iff_ne.mpr c6;have H':=am H;clear H;have p202 : 0 ≤ (x9_1 : Int):=odt qq103;have q202 : x9_1 < (l0.length : Int):=odt qq103;obtain ⟨ad202,e202,hx202_0⟩:=Kd.at_int HR0.out x9_1 p202 q202
       cases e202
       replace p202:=eq_true p202;replace q202:=eq_true q202;go_wp2
       go_roundg k1
       case measure => have:=HK1.out;omega
       case rel => exact ⟨(wrap64 (x9_1 + 1)),qq105,H',⟨qq118⟩,qq101⟩
     ·rw [if_neg c5] at H;exact absurd H (by simp)
    ·rw [if_neg c4] at H;exact absurd H (by simp)
   ·rw [if_neg c3] at H;have c3b0 : decide (x9_1 < (l0.length : Int)) = false:=decide_eq_false c3;clear c3;obtain rfl:=Option.some.inj H;go_wp2
    go_ret
    exact ⟨qq105,qq101⟩

/-! ### impl_has: function 42 -/
def impl_has.f (k : Nat) (l0 : List Int) (a1 : Int) : Option (Bool) := (impl_placeOf.f k l0 a1).bind fun t203 => (some (decide (t203 ≥ 0)))
theorem impl_has.mono : ∀ a0 a1 k, LeO (impl_has.f k a0 a1) (impl_has.f (k + 1) a0 a1) := by
 intro a0 a1 k
 unfold impl_has.f
 repeat' first
   | (with_reducible exact impl_placeOf.mono _ _ _)
   | (with_reducible exact LeO.refl _)
   | (with_reducible exact LeO.none _)
   | (with_reducible refine LeO.ite ?_ ?_)
   | (with_reducible refine LeO.bind ?_ (fun _ => ?_))
   | exact impl_placeOf.mono _ _ _
   | exact LeO.none _
   | refine LeO.ite ?_ ?_
   | refine LeO.bind ?_ (fun _ => ?_)
set_option maxHeartbeats 8000000 in
set_option maxRecDepth 100000 in
theorem impl_has.calls (k : Nat) (A0 : Option Addr) (c0 : Nat) (l0 : List Int) (a1 : Int) (r : Bool) (w : World) (hr0 : Kd.C (Kd.int .i64) w A0 l0.length l0) (hc0 : l0.length ≤ c0) (h : impl_has.f k l0 a1 = some r) :
  Calls Try.prog 42 #[.slice A0 l0.length c0,.int .i64 a1] w fun e w' => e = .returned (.bool r) ∧ Drawn0 w w':=by
 have HR0:=am hr0;have HC0:=am hc0;clear hr0 hc0;have H : ((impl_placeOf.f k l0 a1).bind fun t203 => (some (decide (t203 ≥ 0)))) = some r:=h;clear h;replace H:=bS.mp H;obtain ⟨t203,A30,H⟩:=H;replace H : (some (decide (t203 ≥ 0))) = some r:=H;have A3:=am A30;clear A30;obtain rfl:=Option.some.inj H
 go_enter Try.func42,Try.ntmps42
 go_wp2_with (first | ((with_reducible refine gate_callee (f:=31) rfl ?_);refine goesL_ (some 7) rfl rfl Try.func31 (by kernel_rfl) rfl #[.slice A0 l0.length c0,.int .i64 a1] rfl qq48 ?_;(with_reducible refine (impl_placeOf.calls k _ _ l0 a1 t203 _ ?side1 ?side2 A3.out).mono ?_);(case side1 => exact qq50);(case side2 => exact HC0.out);rintro e w' ⟨rfl,⟨nd,rfl⟩⟩;refine ⟨_,rfl,?_⟩))
 go_ret
 exact ⟨qq105,qq101⟩

end Go.Proofs.Ytnghncedinngoaa.PFnExactMoveTo
