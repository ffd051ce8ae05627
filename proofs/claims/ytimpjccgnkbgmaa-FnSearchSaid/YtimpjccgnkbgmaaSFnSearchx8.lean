/- Contracts of functions that the law FnSearch reaches, for its row: lines that the kit's printer wrote for this claim, set shorter by a program of this session (own.py), and what fell in Lean proved anew. Lean checks them. -/
import Derived.Test.YtimpjccgnkbgmaaSFnSearchx0
import Derived.Test.YtimpjccgnkbgmaaSFnSearchx7
namespace Go.Proofs.Ytimpjccgnkbgmaa.PFnSearch
open Go.RowKit Go.Proofs.YtimpjccgnkbgmaaW.PrintWords Go.Proofs.YtimpjccgnkbgmaaW.PrintLast Go.Proofs.YtimpjccgnkbgmaaW.PrintMore
attribute [local go_sem] max2_int min2_int max_two min_two max_three min_three max_four min_four   -- for this text's walks alone
set_option linter.unusedVariables false
set_option linter.unusedSimpArgs false

/-! ### spec_l5From: function 47 -/
mutual
def spec_l5From.l0 : Nat → Int → List Int → Int → Int → Int → List Int → Option (List Int)
 | 0,_,_,_,_,_,_ => none
 | k + 1,x1,x5,x6,x361000,x361001,x361002 => if x6 < (x361002.length : Int) then (if x5.length < 17592186044416 then (spec_l5From.l0 k x1 (x5 ++ [(-1)]) (wrap64 (x6 + 1)) x361000 x361001 x361002) else (none)) else (if 0 ≤ x1 then (if x1 < (x5.length : Int) then (spec_l5From.l1 k (x5.set (x1 : Int).toNat 0) (([x1] : List Int)) 0 x361000 x361001 x361002) else (none)) else (none))
def spec_l5From.l1 : Nat → List Int → List Int → Int → Int → Int → List Int → Option (List Int)
 | 0,_,_,_,_,_,_ => none
 | k + 1,x5,x7,x8,x361000,x361001,x361002 => if x8 < (x7.length : Int) then (if 0 ≤ x8 then ((spec_l4Near.f k x361000 x361001 x361002 (rd x7 x8)).bind fun t372 => (spec_l5From.l2 k x5 x7 x8 t372 0 x361000 x361001 x361002)) else (none)) else (some x5)
def spec_l5From.l2 : Nat → List Int → List Int → Int → List Int → Int → Int → Int → List Int → Option (List Int)
 | 0,_,_,_,_,_,_,_,_ => none
 | k + 1,x5,x7,x8,x9,x10,x361000,x361001,x361002 => if x10 < (x9.length : Int) then (if 0 ≤ x10 then (if 0 ≤ (rd x9 x10) then (if (rd x9 x10) < (x5.length : Int) then (if (rd x5 (rd x9 x10)) < 0 then (if 0 ≤ x8 then (if x8 < (x7.length : Int) then (if 0 ≤ (rd x7 x8) then (if (rd x7 x8) < (x5.length : Int) then (if x7.length < 17592186044416 then (spec_l5From.l2 k (x5.set ((rd x9 x10) : Int).toNat (wrap64 ((rd x5 (rd x7 x8)) + 1))) (x7 ++ [rd x9 x10]) x8 x9 (wrap64 (x10 + 1)) x361000 x361001 x361002) else (none)) else (none)) else (none)) else (none)) else (none)) else (spec_l5From.l2 k x5 x7 x8 x9 (wrap64 (x10 + 1)) x361000 x361001 x361002)) else (none)) else (none)) else (none)) else (spec_l5From.l1 k x5 x7 (wrap64 (x8 + 1)) x361000 x361001 x361002)
end
def spec_l5From.f (k : Nat) (a0_0 : Int) (a0_1 : Int) (l0_2 : List Int) (a1 : Int) : Option (List Int) := spec_l5From.l0 k a1 (([] : List Int)) 0 a0_0 a0_1 l0_2
def spec_l5From.T16 : Bool × List (List Nat × List Nat) := (true, [([], []), ([], []), ([], []), ([1, 2], [1, 2]), ([3], [3]), ([], []), ([], []), ([], []), ([6, 7], [6, 7]), ([8], [8]), ([5, 9], [5, 9]), ([10], [10]), ([11], [11]), ([0, 4, 0, 1, 2, 3, 4, 5, 6, 7, 8, 9, 10, 11, 12], [0, 4]), ([13, 12, 0, 1, 2, 3, 4, 5, 6, 7, 8, 9, 10, 11, 12], [12, 13])])
def spec_l5From.B16 : List Nat := [0, 0, 0, 6, 14, 0, 0, 0, 192, 448, 992, 2016, 4064, 8191, 16383]
theorem spec_l5From.tab16 : rtab .any (opsOf Try.f47 16) = spec_l5From.T16 := by kernel_rfl
theorem spec_l5From.bits16 : waitsOk spec_l5From.T16.2 spec_l5From.B16 = true := by kernel_rfl
set_option maxHeartbeats 8000000 in
set_option maxRecDepth 100000 in
theorem spec_l5From.calls (k : Nat) (a0_0 : Int) (a0_1 : Int) (A0_2 : Option Addr) (c0_2 : Nat) (l0_2 : List Int) (a1 : Int) (r : List Int) (w : World) (hr0_2 : Kd.C (Kd.int .i64) w A0_2 l0_2.length l0_2) (hc0_2 : l0_2.length ≤ c0_2) (h : spec_l5From.f k a0_0 a0_1 l0_2 a1 = some r) :
  Calls Try.prog 47 #[.agg #[.int .i64 a0_0,.int .i64 a0_1,.slice A0_2 l0_2.length c0_2],.int .i64 a1] w fun e w' => ∃ v0_ : Value,e = .returned (v0_) ∧ Kd.R (Kd.int .i64) 3 w' w.heap.size (fun _ => True) v0_ r ∧ Below w.heap.size w w':=by
 have hu26:=Try.underlying26;have HR0_2:=am hr0_2;have HC0_2:=am hc0_2;clear hr0_2 hc0_2;have HB:=am qq354;have H : (spec_l5From.l0 k a1 (([] : List Int)) 0 a0_0 a0_1 l0_2) = some r:=h;clear h;obtain ⟨y361,hy361⟩ : ∃ y_ : List Int,y_ = (([] : List Int)):=⟨_,rfl⟩
 replace H : (spec_l5From.l0 k a1 y361 0 a0_0 a0_1 l0_2) = some r:=by first | (rw [hy361];with_reducible exact H) | (have H2_:=(Option.bind_some _ _).symm.trans H;rw [hy361];with_reducible exact H2_) | (have H2_:=(Option.bind_some _ _).symm.trans H;with_reducible exact H2_) | with_reducible exact H | (rw [hy361];exact H) | exact H
 have Ny361:=am hy361;clear hy361;have H':=am H;clear H
 go_enter Try.func47,Try.ntmps47
 go_wp2_with (first | ((with_reducible refine gate_dst (N:=2) rfl ?_);refine box_event ?hg (N:=2) ?hd (cs:=#[.int .i64 a0_0,.int .i64 a0_1,.slice A0_2 l0_2.length c0_2]) (t:=26) ?hr ?_;(case hd => rfl);(case hg => rfl);(case hr => exact qq261);intro gb360 hg w3 hbox hb;have BK360:=am (hbox);have GW360:=am ((qq108 : w.heap.size ≤ gb360));have GE360:=am ((qq108 : w.heap.size ≤ gb360));replace HB:=am qq358;clear hb hbox hg) | ((with_reducible refine gate_dst (N:=11) rfl ?_);refine Kd.R_lit (Kd.int .i64) _ 3 ?hg (N:=11) ?hd (xs:=([] : List Int)) (inner:=[]) (ok:=fun _ => True) (okp:=fun _ => True) ?hr ?hp (fun _ hk => hk) trivial (Below.refl _ _) (Nat.le_refl _) (by simp) ?_;(case hd => rfl);(case hg => rfl);(case hr => exact qq261);(case hp => exact qq274);intro v362 w4 ho5 hb hg_ hnew_;clear hg_ hnew_;(first | rw [← Ny361.out] at ho5 | (simp only [Int.reduceToNat] at ho5;rw [← Ny361.out] at ho5));have HO363:=am (Kd.R_lower ho5 (below_size qq123));replace BK360:=am qq309;replace HB:=am (below_step qq123 hb);clear hb ho5))
 go_loopg [5,6] k (fun kq v5 v6 w' => ∃ (x5_1 : List Int) (x6_1 : Int),v6 = .int .i64 x6_1 ∧ Aside0 (spec_l5From.l0 kq a1 x5_1 x6_1 a0_0 a0_1 l0_2 = some r) ∧ Aside0 (kq ≤ k) ∧ Aside0 (Kd.R (Kd.int .i64) 3 w' w.heap.size (fun _ => True) v5 x5_1) ∧ Aside0 (w'.heap[gb360]? = some (.cells #[.int .i64 a0_0,.int .i64 a0_1,(.slice A0_2 l0_2.length c0_2)] 26 (0,0))) ∧ Aside0 (Below w.heap.size w w'))
 case atStart => exact ⟨(y361),(0),qq260,H',⟨Nat.le_refl _⟩,⟨by (with_reducible repeat (first | apply kA | apply kN | apply kD));exact HO363.out⟩,⟨qq195⟩,⟨qq123⟩⟩
 case round =>
  clear H'
  try clear p2
  try clear c4
  obtain ⟨x5_1,x6_1,rfl,HA,HK1,HO_5,BK360,HB⟩:=hrel
  cases gk with
  | zero => exact absurd HA.out (by simp [spec_l5From.l0])
  | succ k1 =>
   have H:=HA.out;clear HA;simp only [spec_l5From.l0] at H
   by_cases c6 : x6_1 < (l0_2.length : Int)
   ·rw [if_pos c6] at H;have c6b0 : decide (x6_1 < (l0_2.length : Int)) = true:=decide_eq_true c6;clear c6
    by_cases c7 : x5_1.length < 17592186044416
    ·rw [if_pos c7] at H;have LMc7:=am c7;clear c7;obtain ⟨y364,hy364⟩ : ∃ y_ : List Int,y_ = (x5_1 ++ [(-1)]):=⟨_,rfl⟩
     replace H : (spec_l5From.l0 k1 a1 y364 (wrap64 (x6_1 + 1)) a0_0 a0_1 l0_2) = some r:=by first | (rw [hy364];with_reducible exact H) | (have H2_:=(Option.bind_some _ _).symm.trans H;rw [hy364];with_reducible exact H2_) | (have H2_:=(Option.bind_some _ _).symm.trans H;with_reducible exact H2_) | with_reducible exact H | (rw [hy364];exact H) | exact H
     have Ny364:=am hy364;clear hy364;have H':=am H;clear H;obtain ⟨hcz8_0,hcz8_1,hcz8_2,hfz8_0,hfz8_1,hfz8_2⟩:=bcl3 BK360.out;go_wp2_with (first | ((with_reducible refine gate_builtin (b:=.append) (xs:=#[.tmp 19,.tmp 20]) rfl ?_);at_builtin;refine Kd.R_append (Kd.int .i64) (w0:=w) w.heap.size rfl (.tmp 19) (.tmp 20) 24 3 (.int .i64 0) 8 rfl Try.underlying24 info3 rfl (by decide) (by omega) u5 x5_1 (-1) [.int .i64 (-1)] (fun _ => True) (fun _ => False) rfl rfl ?aP (fun _ hk => hk.elim) ?aF ?aO ?aB ?aS ?aL ?_;(case aP => exact rfl);(case aB => exact qq123);(case aF => exact qq272);(case aO => exact qq220);(case aS => exact (below_size qq123));(case aL => have:=LMc7.out;omega);intro v365 w9 ho hb hg hat;rw [← Ny364.out] at ho;replace BK360:=am qq286;replace HB:=am (hb);have HO366:=am (ho);clear HO_5;clear ho hb hg hat))
     go_roundg k1
     case measure => have:=HK1.out;omega
     case rel => exact ⟨(y364),(wrap64 (x6_1 + 1)),qq260,H',⟨qq275⟩,⟨by (with_reducible repeat (first | apply kA | apply kN | apply kD));exact HO366.out⟩,⟨qq195⟩,⟨qq123⟩⟩
    ·rw [if_neg c7] at H;exact absurd H (by simp)
   ·rw [if_neg c6] at H;have c6b0 : decide (x6_1 < (l0_2.length : Int)) = false:=decide_eq_false c6;clear c6
    by_cases c10 : 0 ≤ a1
    ·rw [if_pos c10] at H;have c10b0 : decide (0 ≤ a1) = true:=decide_eq_true c10;clear c10
     by_cases c11 : a1 < (x5_1.length : Int)
     ·rw [if_pos c11] at H;have c11b0 : decide (a1 < (x5_1.length : Int)) = true:=decide_eq_true c11;clear c11;obtain ⟨y367,hy367⟩ : ∃ y_ : List Int,y_ = (x5_1.set (a1 : Int).toNat 0):=⟨_,rfl⟩
      replace H : (spec_l5From.l1 k1 y367 (([a1] : List Int)) 0 a0_0 a0_1 l0_2) = some r:=by first | (rw [hy367];with_reducible exact H) | (have H2_:=(Option.bind_some _ _).symm.trans H;rw [hy367];with_reducible exact H2_) | (have H2_:=(Option.bind_some _ _).symm.trans H;with_reducible exact H2_) | with_reducible exact H | (rw [hy367];exact H) | exact H
      have Ny367:=am hy367;clear hy367;obtain ⟨y368,hy368⟩ : ∃ y_ : List Int,y_ = (([a1] : List Int)):=⟨_,rfl⟩
      replace H : (spec_l5From.l1 k1 y367 y368 0 a0_0 a0_1 l0_2) = some r:=by first | (rw [hy368];with_reducible exact H) | (have H2_:=(Option.bind_some _ _).symm.trans H;rw [hy368];with_reducible exact H2_) | (have H2_:=(Option.bind_some _ _).symm.trans H;with_reducible exact H2_) | with_reducible exact H | (rw [hy368];exact H) | exact H
      have Ny368:=am hy368;clear hy368;have H':=am H;clear H;obtain ⟨hcz13_0,hcz13_1,hcz13_2,hfz13_0,hfz13_1,hfz13_2⟩:=bcl3 BK360.out;have p12 : 0 ≤ (a1 : Int):=odt qq258;have q12 : (a1 : Int) < ((x5_1.length : Int) : Int):=odt qq258;obtain ⟨go12,co12,eo12,gb12,gl12,cl12,HG12⟩:=Kd.R_form HO_5.out (by omega);(first | cases eo12 | (injection eo12 with ea_ en_ ec_;(first | subst ea_ | (injection ea_ with ea_;subst ea_));subst ec_;clear en_));have GB12:=am gb12;have GG12:=am HG12;clear gb12 gl12 HG12;obtain ⟨hx12_0,hf12_0⟩:=Kd.R_celln 0 HO_5.out (a1 : Int) p12 q12;replace p12:=eq_true p12;replace q12:=eq_true q12;have HP14:=Kd.R_putg HO_5.out (a1 : Int) 0;go_wp2_with (first | ((with_reducible refine gate_store (t:=3) (p:=24) rfl ?_);refine store_event (t:=3) (p:=24) (v:=?vo_w15) (w1:=(wr.setCell ⟨go12,(a1 : Int).toNat,none⟩ (.int .i64 0))) ?hg ?ho ?hn ?hr ?_;(case ho => rfl);(case hg => rfl);(case hn => rfl);(case hr => exact qq261);intro w15 hw;have hg : wr.grownBy w15 (some go12):=(by rw [hw];exact HP14.2);have hp_ : Kd.R (Kd.int .i64) 3 w15 w.heap.size (fun _ => True) (.slice (some ⟨go12,0,none⟩) x5_1.length co12) y367:=(by rw [hw,Ny367.out];exact HP14.1);clear HP14;replace BK360:=am qq286;replace HO_5:=am (hp_);replace HB:=am ((by rw [hw];exact below_set (HB.out) GB12.out : Below w.heap.size w w15));clear hg hw hp_) | ((with_reducible refine gate_dst (N:=26) rfl ?_);refine Kd.R_lit (Kd.int .i64) _ 3 ?hg (N:=26) ?hd (xs:=([a1] : List Int)) (inner:=[.int .i64 a1]) (ok:=fun _ => True) (okp:=fun _ => True) ?hr ?hp (fun _ hk => hk) trivial (Below.refl _ _) (Nat.le_refl _) (by simp) ?_;(case hd => rfl);(case hg => rfl);(case hr => exact qq261);(case hp => exact qq218);intro v369 w16 ho17 hb hg_ hnew_;clear hg_ hnew_;(first | rw [← Ny368.out] at ho17 | (simp only [Int.reduceToNat] at ho17;rw [← Ny368.out] at ho17));have HO370:=am (Kd.R_lower (Kd.R_new' ho17 (Kd.R_lt qq251)) (below_size qq123));replace HO_5:=am (Kd.R_elder' qq251 (Kd.R_base ho17) hb);replace BK360:=am qq309;replace HB:=am (below_step qq123 hb);clear hb ho17))
      go_loopg [7,8] k1 (fun kq v7 v8 w' => ∃ (x5_2 : List Int) (x7_2 : List Int) (x8_2 : Int),v8 = .int .i64 x8_2 ∧ Aside0 (spec_l5From.l1 kq x5_2 x7_2 x8_2 a0_0 a0_1 l0_2 = some r) ∧ Aside0 (kq ≤ k1) ∧ Aside0 (Kd.R (Kd.int .i64) 3 w' w.heap.size (fun k_ => some k_ ≠ (v7 : Value).ownBlock) (.slice (some ⟨go12,0,none⟩) x5_1.length co12) x5_2) ∧ Aside0 (Kd.R (Kd.int .i64) 3 w' w.heap.size (fun k_ => some k_ ≠ ((.slice (some ⟨go12,0,none⟩) x5_1.length co12) : Value).ownBlock) v7 x7_2) ∧ Aside0 (w'.heap[gb360]? = some (.cells #[.int .i64 a0_0,.int .i64 a0_1,(.slice A0_2 l0_2.length c0_2)] 26 (0,0))) ∧ Aside0 (Below w.heap.size w w'))
      case atStart => exact ⟨(y367),(y368),(0),qq260,H',⟨Nat.le_refl _⟩,⟨qq161⟩,⟨by (with_reducible repeat (first | apply kA | apply kN | apply kD));exact Kd.R_mono HO370.out (fun _ hk => hk.2)⟩,⟨qq195⟩,⟨qq123⟩⟩
      case round =>
       clear H'
       try clear c1
       try clear p1
       try clear q1
       try clear hx1
       try clear p2
       try clear c4
       try clear c6
       try clear c6b0
       try clear p6
       try clear c7
       try clear c10
       try clear c10b0
       try clear c11
       try clear c11b0
       try clear p12
       try clear q12
       try clear hx12
       try clear hf12
       try clear hcz13_0
       try clear hcz13_1
       try clear hcz13_2
       try clear hcz8_0
       try clear hcz8_1
       try clear hcz8_2
       try clear hfz13_0
       try clear hfz13_1
       try clear hfz13_2
       try clear hfz8_0
       try clear hfz8_1
       try clear hfz8_2
       try clear hx12_0
       try clear p12
       try clear p2
       try clear q12
       obtain ⟨x5_2,x7_2,x8_2,rfl,HA,HK2,HO_5,HO_7,BK360,HB⟩:=hrel;have hl5_2:=(Kd.R_reads' HO_5.out).1;rw [hl5_2] at HO_5;(try simp only [hl5_2]);(try simp only [hl5_2] at BK360);(try simp only [hl5_2] at HO_7)
       cases gk with
       | zero => exact absurd HA.out (by simp [spec_l5From.l1])
       | succ k2 =>
        have H:=HA.out;clear HA;simp only [spec_l5From.l1] at H
        by_cases c18 : x8_2 < (x7_2.length : Int)
        ·rw [if_pos c18] at H;have c18b0 : decide (x8_2 < (x7_2.length : Int)) = true:=decide_eq_true c18;clear c18
         by_cases c19 : 0 ≤ x8_2
         ·rw [if_pos c19] at H;have c19b0 : decide (0 ≤ x8_2) = true:=decide_eq_true c19;clear c19;replace H:=bS.mp H;obtain ⟨t372,A200,H⟩:=H;replace H : (spec_l5From.l2 k2 x5_2 x7_2 x8_2 t372 0 a0_0 a0_1 l0_2) = some r:=H;have A20:=am A200;clear A200;have H':=am H;clear H;obtain ⟨Ao21,co21,eo21⟩:=Kd.R_slice HO_7.out;subst eo21
          try go_wp2
          replace HO_5:=am (Kd.R_drew HO_5.out);replace HO_7:=am (Kd.R_drew HO_7.out);replace BK360:=am (blk_drew BK360.out);replace HB:=am qq374;have p371 : 0 ≤ (x8_2 : Int):=odt qq258;have q371 : x8_2 < (x7_2.length : Int):=odt qq258;obtain ⟨ad371,e371,hx371_0⟩:=Kd.at_int (Kd.R_reads' HO_7.out).2.2 x8_2 p371 q371
          cases e371
          replace p371:=eq_true p371;replace q371:=eq_true q371;refine start_ (n:=7) (S:=fun w' => w'.cell? ⟨gb360,0,none⟩ = some (.int .i64 a0_0) ∧ w'.cell? ⟨gb360,1,none⟩ = some (.int .i64 a0_1) ∧ w'.cell? ⟨gb360,2,none⟩ = some (.slice A0_2 l0_2.length c0_2) ∧ w'.cell? (ad371.add (x8_2).toNat) = some (.int .i64 (rd x7_2 x8_2))) (ds:=[]) #[Z,Z,Z,Z,Z,Z,Z] (by kernel_rfl) rfl rfl ⟨(blk_cell BK360.out 0).trans rfl,(blk_cell BK360.out 1).trans rfl,(blk_cell BK360.out 2).trans rfl,hx371_0⟩ (fun hHeld => ?_)
          generalize wr.drew = w22 at HO_5 HO_7 BK360 HB hx371_0 hHeld ⊢
          refine pV (i:=1) (N:=some 34) #[Z,Y,Z,Z,Z,Z,Z] rfl rfl (by kernel_rfl) ?_
          refine pV (i:=2) (N:=some 35) #[Z,Y,Y,Z,Z,Z,Z] rfl rfl (by kernel_rfl) ?_
          refine pV (i:=3) (N:=some 36) #[Z,Y,Y,Y,Z,Z,Z] rfl rfl (by kernel_rfl) ?_
          refine tV4 (i:=0) (N:=some 33) #[Y,Y,Y,Y,Z,Z,Z] rfl rfl (by kernel_rfl) hHeld ?_
          refine tV4 (i:=4) (N:=some 37) #[Y,Y,Y,Y,Y,Z,Z] rfl rfl (by kernel_rfl) hHeld ?_
          refine one_ (i:=5) (N:=some 38) #[Y,Y,Y,Y,Y,Y,Z] rfl rfl (by kernel_rfl) (by decide) (fun K hK => ?_);refine goes_ Try.func48 (by kernel_rfl) rfl #[.agg #[.int .i64 a0_0,.int .i64 a0_1,.slice A0_2 l0_2.length c0_2],.int .i64 (rd x7_2 x8_2)] (by rfl) rfl rfl qq139 ?_;with_reducible refine (spec_l4Near.calls k2 a0_0 a0_1 _ _ l0_2 (rd x7_2 x8_2) t372 _ ?side1 ?side2 A20.out).mono ?_
          (case side1 => exact qq83);(case side2 => exact qq276)
          rintro e w23 ⟨v373,rfl,ho0,hb⟩
          have HS3_:=(hb.cell (bl _ _ (hHeld.2.2.2))).trans (hHeld.2.2.2);refine ⟨_,rfl,?_⟩;have HO374:=am (Kd.R_lower (Kd.R_new' (Kd.R_new' ho0 (Kd.R_lt qq251)) (Kd.R_lt qq249)) (below_size qq123));replace HO_5:=am (Kd.R_elder' qq251 (Kd.R_base ho0) hb);replace HO_7:=am qq337;replace BK360:=am qq309;replace HB:=am (below_step qq123 hb);(try clear hb);(try clear hb2);(try clear hk);(try clear hi);(try clear ho0);refine hK.out _ _ ⟨(blk_cell BK360.out 0).trans rfl,(blk_cell BK360.out 1).trans rfl,(blk_cell BK360.out 2).trans rfl,HS3_⟩ (fun hHeld => ?_);clear hK K;refine norm_ (a':=?_) ?_ ?_;rotate_left
          ·show Act.put _ (some 38) _ = _
           simp only [Act.put,sA,s0,s1,i64_w,i32_w];rfl
          refine pV (i:=6) (N:=some 9) #[Y,Y,Y,Y,Y,Y,Y] rfl rfl (by kernel_rfl) ?_
          refine done_ (by kernel_rfl) ?_
          try go_wp2
          go_loopg [7,10] k2 (fun kq v7 v10 w' => ∃ (x5_3 : List Int) (x7_3 : List Int) (x10_3 : Int),v10 = .int .i64 x10_3 ∧ Aside0 (spec_l5From.l2 kq x5_3 x7_3 x8_2 t372 x10_3 a0_0 a0_1 l0_2 = some r) ∧ Aside0 (kq ≤ k2) ∧ Aside0 (Kd.R (Kd.int .i64) 3 w' w.heap.size (fun k_ => some k_ ≠ (v7 : Value).ownBlock ∧ some k_ ≠ (v373 : Value).ownBlock) (.slice (some ⟨go12,0,none⟩) x5_2.length co12) x5_3) ∧ Aside0 (Kd.R (Kd.int .i64) 3 w' w.heap.size (fun k_ => some k_ ≠ ((.slice (some ⟨go12,0,none⟩) x5_2.length co12) : Value).ownBlock ∧ some k_ ≠ (v373 : Value).ownBlock) v7 x7_3) ∧ Aside0 (Kd.R (Kd.int .i64) 3 w' w.heap.size (fun k_ => some k_ ≠ ((.slice (some ⟨go12,0,none⟩) x5_2.length co12) : Value).ownBlock ∧ some k_ ≠ (v7 : Value).ownBlock) v373 t372) ∧ Aside0 (w'.heap[gb360]? = some (.cells #[.int .i64 a0_0,.int .i64 a0_1,(.slice A0_2 l0_2.length c0_2)] 26 (0,0))) ∧ Aside0 (Below w.heap.size w w'))
          case atStart => exact ⟨(x5_2),(x7_2),(0),qq260,H',⟨Nat.le_refl _⟩,⟨by (try simp only [hl5_2]);(with_reducible repeat (first | apply kA | apply kN | apply kD));exact HO_5.out⟩,⟨by (try simp only [hl5_2]);(with_reducible repeat (first | apply kA | apply kN | apply kD));exact HO_7.out⟩,⟨by (try simp only [hl5_2]);(with_reducible repeat (first | apply kA | apply kN | apply kD));exact Kd.R_mono HO374.out (fun _ hk => ⟨hk.1.2,hk.2⟩)⟩,⟨by (try simp only [hl5_2]);(with_reducible repeat (first | refine dN ?_ _ | refine dD ?_ | refine dA ?_ _));exact BK360.out⟩,⟨qq123⟩⟩
          case round =>
           clear H'
           try clear c1
           try clear p1
           try clear q1
           try clear hx1
           try clear p2
           try clear p3
           try clear q3
           try clear hx3
           try clear c4
           try clear c6
           try clear c6b0
           try clear p6
           try clear c7
           try clear c10
           try clear c10b0
           try clear c11
           try clear c11b0
           try clear p12
           try clear q12
           try clear hx12
           try clear hf12
           try clear c18
           try clear c18b0
           try clear c19
           try clear c19b0
           try clear hcz13_0
           try clear hcz13_1
           try clear hcz13_2
           try clear hcz8_0
           try clear hcz8_1
           try clear hcz8_2
           try clear hfz13_0
           try clear hfz13_1
           try clear hfz13_2
           try clear hfz8_0
           try clear hfz8_1
           try clear hfz8_2
           try clear hx12_0
           try clear hx371_0
           try clear p1
           try clear p12
           try clear p2
           try clear p371
           try clear p6
           try clear q1
           try clear q12
           try clear q371
           obtain ⟨x5_3,x7_3,x10_3,rfl,HA,HK3,HO_5,HO_7,HO_9,BK360,HB⟩:=hrel;have hl5_3:=(Kd.R_reads' HO_5.out).1;rw [hl5_3] at HO_5;(try simp only [hl5_3]);(try simp only [hl5_3] at BK360);(try simp only [hl5_3] at HO_7);(try simp only [hl5_3] at HO_9)
           cases gk with
           | zero => exact absurd HA.out (by simp [spec_l5From.l2])
           | succ k3 =>
            have H:=HA.out;clear HA;simp only [spec_l5From.l2] at H
            by_cases c24 : x10_3 < (t372.length : Int)
            ·rw [if_pos c24] at H;have c24b0 : decide (x10_3 < (t372.length : Int)) = true:=decide_eq_true c24;clear c24
             by_cases c25 : 0 ≤ x10_3
             ·rw [if_pos c25] at H;have c25b0 : decide (0 ≤ x10_3) = true:=decide_eq_true c25;clear c25
              by_cases c26 : 0 ≤ (rd t372 x10_3)
              ·rw [if_pos c26] at H;have c26b0 : decide (0 ≤ (rd t372 x10_3)) = true:=decide_eq_true c26;clear c26
               by_cases c27 : (rd t372 x10_3) < (x5_3.length : Int)
               ·rw [if_pos c27] at H;have c27b0 : decide ((rd t372 x10_3) < (x5_3.length : Int)) = true:=decide_eq_true c27;clear c27
                by_cases c28 : (rd x5_3 (rd t372 x10_3)) < 0
                ·rw [if_pos c28] at H;have c28b0 : decide ((rd x5_3 (rd t372 x10_3)) < 0) = true:=decide_eq_true c28;clear c28
                 by_cases c29 : 0 ≤ x8_2
                 ·rw [if_pos c29] at H;have c29b0 : decide (0 ≤ x8_2) = true:=decide_eq_true c29;clear c29
                  by_cases c30 : x8_2 < (x7_3.length : Int)
                  ·rw [if_pos c30] at H;have c30b0 : decide (x8_2 < (x7_3.length : Int)) = true:=decide_eq_true c30;clear c30
                   by_cases c31 : 0 ≤ (rd x7_3 x8_2)
                   ·rw [if_pos c31] at H;have c31b0 : decide (0 ≤ (rd x7_3 x8_2)) = true:=decide_eq_true c31;clear c31
                    by_cases c32 : (rd x7_3 x8_2) < (x5_3.length : Int)
                    ·rw [if_pos c32] at H;have c32b0 : decide ((rd x7_3 x8_2) < (x5_3.length : Int)) = true:=decide_eq_true c32;clear c32;obtain ⟨y380,hy380⟩ : ∃ y_ : List Int,y_ = (x5_3.set ((rd t372 x10_3) : Int).toNat (wrap64 ((rd x5_3 (rd x7_3 x8_2)) + 1))):=⟨_,rfl⟩
                     replace H : (if x7_3.length < 17592186044416 then (spec_l5From.l2 k3 y380 (x7_3 ++ [rd t372 x10_3]) x8_2 t372 (wrap64 (x10_3 + 1)) a0_0 a0_1 l0_2) else (none)) = some r:=by first | (rw [hy380];with_reducible exact H) | (have H2_:=(Option.bind_some _ _).symm.trans H;rw [hy380];with_reducible exact H2_) | (have H2_:=(Option.bind_some _ _).symm.trans H;with_reducible exact H2_) | with_reducible exact H | (rw [hy380];exact H) | exact H
                     have Ny380:=am hy380;clear hy380
                     by_cases c34 : x7_3.length < 17592186044416
                     ·rw [if_pos c34] at H;have LMc34:=am c34;clear c34;obtain ⟨y382,hy382⟩ : ∃ y_ : List Int,y_ = (x7_3 ++ [rd t372 x10_3]):=⟨_,rfl⟩
                      replace H : (spec_l5From.l2 k3 y380 y382 x8_2 t372 (wrap64 (x10_3 + 1)) a0_0 a0_1 l0_2) = some r:=by first | (rw [hy382];with_reducible exact H) | (have H2_:=(Option.bind_some _ _).symm.trans H;rw [hy382];with_reducible exact H2_) | (have H2_:=(Option.bind_some _ _).symm.trans H;with_reducible exact H2_) | with_reducible exact H | (rw [hy382];exact H) | exact H
                      have Ny382:=am hy382;clear hy382;have H':=am H;clear H;obtain ⟨Ao35,co35,eo35⟩:=Kd.R_slice HO_9.out;subst eo35;have p375 : 0 ≤ (x10_3 : Int):=odt qq258;have q375 : x10_3 < (t372.length : Int):=odt qq258;obtain ⟨ad375,e375,hx375_0⟩:=Kd.at_int (Kd.R_reads' HO_9.out).2.2 x10_3 p375 q375
                      cases e375
                      replace p375:=eq_true p375;replace q375:=eq_true q375;have p376 : 0 ≤ ((rd t372 x10_3) : Int):=odt qq258;have q376 : (rd t372 x10_3) < (x5_3.length : Int):=odt qq258;obtain ⟨ad376,e376,hx376_0⟩:=Kd.at_int (Kd.R_reads' HO_5.out).2.2 (rd t372 x10_3) p376 q376;obtain rfl : (⟨go12,0,none⟩ : Addr) = ad376:=(by injection e376)
                      (first | simp only [add_plain] at hx376_0 | simp only [add_at] at hx376_0 | simp only [Addr.add,Nat.zero_add] at hx376_0 | skip);replace p376:=eq_true p376;replace q376:=eq_true q376
                      try go_wp2
                      replace HO_5:=am (Kd.R_drew HO_5.out);replace HO_7:=am (Kd.R_drew HO_7.out);replace HO_9:=am (Kd.R_drew HO_9.out);replace BK360:=am (blk_drew BK360.out);replace HB:=am qq374;have p377 : 0 ≤ (x10_3 : Int):=odt qq258;have q377 : x10_3 < (t372.length : Int):=odt qq258;obtain ⟨ad377,e377,hx377_0⟩:=Kd.at_int (Kd.R_reads' HO_9.out).2.2 x10_3 p377 q377;obtain rfl : ad375 = ad377:=(by injection e377)
                      replace p377:=eq_true p377;replace q377:=eq_true q377;obtain ⟨Ao37,co37,eo37⟩:=Kd.R_slice HO_7.out;(first | subst eo37 | (injection eo37 with f1_ f2_ f3_;have f4_:=f1_.symm;have f5_:=f3_.symm;clear f1_ f2_ f3_;subst f4_;subst f5_));have p378 : 0 ≤ (x8_2 : Int):=odt qq258;have q378 : x8_2 < (x7_3.length : Int):=odt qq258;obtain ⟨ad378,e378,hx378_0⟩:=Kd.at_int (Kd.R_reads' HO_7.out).2.2 x8_2 p378 q378
                      cases e378
                      replace p378:=eq_true p378;replace q378:=eq_true q378;have p379 : 0 ≤ ((rd x7_3 x8_2) : Int):=odt qq258;have q379 : (rd x7_3 x8_2) < (x5_3.length : Int):=odt qq258;obtain ⟨ad379,e379,hx379_0⟩:=Kd.at_int (Kd.R_reads' HO_5.out).2.2 (rd x7_3 x8_2) p379 q379;obtain rfl : (⟨go12,0,none⟩ : Addr) = ad379:=(by injection e379)
                      (first | simp only [add_plain] at hx379_0 | simp only [add_at] at hx379_0 | simp only [Addr.add,Nat.zero_add] at hx379_0 | skip);replace p379:=eq_true p379;replace q379:=eq_true q379;have p33 : 0 ≤ ((rd t372 x10_3) : Int):=odt qq258;have q33 : ((rd t372 x10_3) : Int) < ((x5_3.length : Int) : Int):=odt qq258;obtain ⟨hx33_0,hf33_0⟩:=Kd.R_celln 0 HO_5.out ((rd t372 x10_3) : Int) p33 q33;replace p33:=eq_true p33;replace q33:=eq_true q33;have HP38:=Kd.R_putn HO_5.out ((rd t372 x10_3) : Int) (wrap64 ((rd x5_3 (rd x7_3 x8_2)) + 1));rw [← Ny380.out] at HP38;have HQ38:=am HP38;clear HP38;refine start_ (n:=15) (S:=fun w' => w'.cell? (ad375.add (x10_3).toNat) = some (.int .i64 (rd t372 x10_3)) ∧ w'.cell? (ad378.add (x8_2).toNat) = some (.int .i64 (rd x7_3 x8_2)) ∧ w'.cell? ⟨go12,((rd x7_3 x8_2)).toNat,none⟩ = some (.int .i64 (rd x5_3 (rd x7_3 x8_2)))) (ds:=[14]) #[Z,Z,Z,Z,Z,Z,Z,Z,Z,Z,Z,Z,Z,Z,Z] (by kernel_rfl) rfl rfl ⟨hx377_0,hx378_0,hx379_0⟩ (fun hHeld => ?_);refine with_tabW spec_l5From.tab16 spec_l5From.bits16 (fun HT_ HW_ => ?_)
                      generalize wr.drew = w36 at HO_5 HO_7 HO_9 BK360 HB HQ38 hf33_0 hx33_0 hx377_0 hx378_0 hx379_0 hHeld ⊢
                      refine pV (i:=0) (N:=some 53) #[Y,Z,Z,Z,Z,Z,Z,Z,Z,Z,Z,Z,Z,Z,Z] rfl rfl qT ?_
                      refine pV (i:=1) (N:=some 54) #[Y,Y,Z,Z,Z,Z,Z,Z,Z,Z,Z,Z,Z,Z,Z] rfl rfl qT ?_
                      refine pV (i:=2) (N:=some 55) #[Y,Y,Y,Z,Z,Z,Z,Z,Z,Z,Z,Z,Z,Z,Z] rfl rfl qT ?_
                      refine pV (i:=3) (N:=some 56) #[Y,Y,Y,Y,Z,Z,Z,Z,Z,Z,Z,Z,Z,Z,Z] rfl rfl qT ?_
                      refine pV (i:=5) (N:=some 58) #[Y,Y,Y,Y,Z,Y,Z,Z,Z,Z,Z,Z,Z,Z,Z] rfl rfl qT ?_
                      refine pV (i:=6) (N:=some 59) #[Y,Y,Y,Y,Z,Y,Y,Z,Z,Z,Z,Z,Z,Z,Z] rfl rfl qT ?_
                      refine pV (i:=7) (N:=some 60) #[Y,Y,Y,Y,Z,Y,Y,Y,Z,Z,Z,Z,Z,Z,Z] rfl rfl qT ?_
                      refine pV (i:=8) (N:=some 61) #[Y,Y,Y,Y,Z,Y,Y,Y,Y,Z,Z,Z,Z,Z,Z] rfl rfl qT ?_
                      refine tV3 (i:=4) (N:=some 57) #[Y,Y,Y,Y,Y,Y,Y,Y,Y,Z,Z,Z,Z,Z,Z] rfl rfl (take_ofW HT_.out HW_.out (by kernel_rfl)) hHeld ?_
                      refine tV3 (i:=9) (N:=some 62) #[Y,Y,Y,Y,Y,Y,Y,Y,Y,Y,Z,Z,Z,Z,Z] rfl rfl (take_ofW HT_.out HW_.out (by kernel_rfl)) hHeld ?_
                      refine pV (i:=10) (N:=some 63) #[Y,Y,Y,Y,Y,Y,Y,Y,Y,Y,Y,Z,Z,Z,Z] rfl rfl qT ?_
                      refine tV3 (i:=11) (N:=some 64) #[Y,Y,Y,Y,Y,Y,Y,Y,Y,Y,Y,Y,Z,Z,Z] rfl rfl (take_ofW HT_.out HW_.out (by kernel_rfl)) hHeld ?_
                      refine pV (i:=12) (N:=some 65) #[Y,Y,Y,Y,Y,Y,Y,Y,Y,Y,Y,Y,Y,Z,Z] rfl rfl qT ?_
                      refine pV (i:=13) (N:=some 66) #[Y,Y,Y,Y,Y,Y,Y,Y,Y,Y,Y,Y,Y,Y,Z] rfl rfl qT ?_
                      refine last_ (i:=14) (N:=none) #[Y,Y,Y,Y,Y,Y,Y,Y,Y,Y,Y,Y,Y,Y,Y] rfl rfl (one_of HT_.out (by kernel_rfl)) (by decide) (fun K hK => ?_);refine skip_ (w1:=?_) (by rfl) rfl ?_ ?_;rotate_left
                      ·go_simp;rfl
                      refine hK.out _ _ ?_;clear hK K;refine done_ (done_of HT_.out (by kernel_rfl)) ?_;have p381 : 0 ≤ (x10_3 : Int):=odt qq258;have q381 : x10_3 < (t372.length : Int):=odt qq258;obtain ⟨ad381,e381,hx381_0⟩:=Kd.at_int (Kd.R_reads' HO_9.out).2.2 x10_3 p381 q381;obtain rfl : ad375 = ad381:=(by injection e381)
                      have hn381_0 : ad375.block ≠ go12:=Kd.own_blk (fun e_ => by have hk:=HO_9.out.1 _ e_.symm;exact absurd (by first | rfl | simp only [Value.ownBlock]) (hk.1));replace hx381_0:=(cell_far (p:=⟨go12,((rd t372 x10_3) : Int).toNat,none⟩) (by first | (rw [add_block];exact hn381_0) | (show (Addr.add _ _).block ≠ _;rw [add_block];exact hn381_0) | exact hn381_0) (.int .i64 (wrap64 ((rd x5_3 (rd x7_3 x8_2)) + 1)))).trans hx381_0;clear hn381_0;replace p381:=eq_true p381;replace q381:=eq_true q381
                      try go_wp2_with (first | ((with_reducible refine gate_builtin (b:=.append) (xs:=#[.tmp 67,.tmp 72]) rfl ?_);at_builtin;refine Kd.R_append (Kd.int .i64) (w0:=w) w.heap.size rfl (.tmp 67) (.tmp 72) 24 3 (.int .i64 0) 8 rfl Try.underlying24 info3 rfl (by decide) (by omega) (.slice (some ad378) x7_3.length co37) x7_3 (rd t372 x10_3) [.int .i64 (rd t372 x10_3)] (fun k_ => some k_ ≠ (.slice (some ⟨go12,0,none⟩) x5_3.length co12 : Value).ownBlock ∧ some k_ ≠ (.slice (some ad375) t372.length co35 : Value).ownBlock) (fun _ => False) rfl qq261 ?aP (fun _ hk => hk.elim) ?aF ?aO ?aB ?aS ?aL ?_;(case aP => exact rfl);(case aB => exact qq73);(case aF => exact (fun k_ hk => ⟨Kd.fresh' (Kd.R_lt (by (with_reducible repeat (first | apply kA | apply kN | apply kD));exact HQ38.out)) k_ hk,Kd.fresh' (Kd.R_lt (by (with_reducible repeat (first | apply kA | apply kN | apply kD));exact (Kd.R_mono (Kd.R_far (p:=⟨go12,((rd t372 x10_3) : Int).toNat,none⟩) (Kd.R_mono HO_9.out (fun k_ hk => (⟨hk,fun e_ => hk.1 (by rw [e_];rfl)⟩ : _ ∧ k_ ≠ go12))) (fun _ hk => hk.2) (.int .i64 (wrap64 ((rd x5_3 (rd x7_3 x8_2)) + 1)))) (fun _ h_ => h_.1)))) k_ hk⟩));(case aO => exact (by (with_reducible repeat (first | apply kA | apply kN | apply kD));exact Kd.R_mono (Kd.R_far (p:=⟨go12,((rd t372 x10_3) : Int).toNat,none⟩) (Kd.R_mono HO_7.out (fun k_ hk => (⟨hk,fun e_ => hk.1 (by rw [e_];rfl)⟩ : _ ∧ k_ ≠ go12))) (fun _ hk => hk.2) (.int .i64 (wrap64 ((rd x5_3 (rd x7_3 x8_2)) + 1)))) (fun _ hk => ⟨hk.1.1,hk.1.2⟩)));(case aS => exact (below_size qq73));(case aL => have:=LMc34.out;omega);intro v383 w39 ho hb hg hat;rw [← Ny382.out] at ho;replace HO_9:=am (Kd.R_after (ok:=(fun k_ => some k_ ≠ (.slice (some ⟨go12,0,none⟩) x5_3.length co12 : Value).ownBlock)) (by (with_reducible repeat (first | apply kA | apply kN | apply kD));exact Kd.R_mono (Kd.R_far (p:=⟨go12,((rd t372 x10_3) : Int).toNat,none⟩) (Kd.R_mono HO_9.out (fun k_ hk => (⟨hk,fun e_ => hk.1 (by rw [e_];rfl)⟩ : _ ∧ k_ ≠ go12))) (fun _ hk => hk.2) (.int .i64 (wrap64 ((rd x5_3 (rd x7_3 x8_2)) + 1)))) (fun _ hk => ⟨hk.1.1,hk.1.2⟩)) hg hat);replace BK360:=am (blk_grown (g:=gb360) (o:=.cells #[.int .i64 a0_0,.int .i64 a0_1,.slice A0_2 l0_2.length c0_2] 26 (0,0)) (by (with_reducible repeat (first | refine dN ?_ _ | refine dD ?_ | refine dA ?_ _));refine blk_far ?_ (by have h_:=Kd.R_ne HO_5.out BK360.out (by decide);intro e_;exact h_ (by rw [e_];rfl)) _;(with_reducible repeat (first | refine dN ?_ _ | refine dD ?_ | refine dA ?_ _));exact BK360.out) hg (Kd.R_ne HO_7.out BK360.out (by decide)));replace HO_5:=am (Kd.R_after (ok:=(fun k_ => some k_ ≠ (.slice (some ad375) t372.length co35 : Value).ownBlock)) (by (with_reducible repeat (first | apply kA | apply kN | apply kD));exact Kd.R_mono HQ38.out (fun _ hk => ⟨hk.2,hk.1⟩)) hg hat);replace HB:=am (hb);have HO384:=am (ho);clear HO_7;clear ho hb hg hat))
                      (try simp only [← hl5_3])
                      go_roundg k3
                      case measure => have:=HK1.out;have:=HK2.out;have:=HK3.out;omega
                      case rel => exact ⟨(y380),(y382),(wrap64 (x10_3 + 1)),qq260,H',⟨qq259⟩,⟨by (try simp only [hl5_2]);(try simp only [hl5_3]);(with_reducible repeat (first | apply kA | apply kN | apply kD));exact Kd.R_mono HO_5.out (fun _ hk => ⟨hk.2,hk.1⟩)⟩,⟨by (try simp only [hl5_2]);(try simp only [hl5_3]);(with_reducible repeat (first | apply kA | apply kN | apply kD));exact HO384.out⟩,⟨qq144⟩,⟨qq102⟩,⟨qq123⟩⟩
                     ·rw [if_neg c34] at H;exact absurd H (by simp)
                    ·rw [if_neg c32] at H;exact absurd H (by simp)
                   ·rw [if_neg c31] at H;exact absurd H (by simp)
                  ·rw [if_neg c30] at H;exact absurd H (by simp)
                 ·rw [if_neg c29] at H;exact absurd H (by simp)
                ·rw [if_neg c28] at H;have c28b0 : decide ((rd x5_3 (rd t372 x10_3)) < 0) = false:=decide_eq_false c28;clear c28;have H':=am H;clear H;obtain ⟨Ao40,co40,eo40⟩:=Kd.R_slice HO_9.out;subst eo40;have p375 : 0 ≤ (x10_3 : Int):=odt qq258;have q375 : x10_3 < (t372.length : Int):=odt qq258;obtain ⟨ad375,e375,hx375_0⟩:=Kd.at_int (Kd.R_reads' HO_9.out).2.2 x10_3 p375 q375
                 cases e375
                 replace p375:=eq_true p375;replace q375:=eq_true q375;have p376 : 0 ≤ ((rd t372 x10_3) : Int):=odt qq258;have q376 : (rd t372 x10_3) < (x5_3.length : Int):=odt qq258;obtain ⟨ad376,e376,hx376_0⟩:=Kd.at_int (Kd.R_reads' HO_5.out).2.2 (rd t372 x10_3) p376 q376;obtain rfl : (⟨go12,0,none⟩ : Addr) = ad376:=(by injection e376)
                 (first | simp only [add_plain] at hx376_0 | simp only [add_at] at hx376_0 | simp only [Addr.add,Nat.zero_add] at hx376_0 | skip);replace p376:=eq_true p376;replace q376:=eq_true q376;go_wp2
                 (try simp only [← hl5_3])
                 go_roundg k3
                 case measure => have:=HK1.out;have:=HK2.out;have:=HK3.out;omega
                 case rel => exact ⟨(x5_3),(x7_3),(wrap64 (x10_3 + 1)),qq260,H',⟨qq259⟩,⟨by (try simp only [hl5_2]);(try simp only [hl5_3]);(with_reducible repeat (first | apply kA | apply kN | apply kD));exact HO_5.out⟩,⟨by (try simp only [hl5_2]);(try simp only [hl5_3]);(with_reducible repeat (first | apply kA | apply kN | apply kD));exact HO_7.out⟩,⟨qq144⟩,⟨qq102⟩,⟨qq123⟩⟩
               ·rw [if_neg c27] at H;exact absurd H (by simp)
              ·rw [if_neg c26] at H;exact absurd H (by simp)
             ·rw [if_neg c25] at H;exact absurd H (by simp)
            ·rw [if_neg c24] at H;have c24b0 : decide (x10_3 < (t372.length : Int)) = false:=decide_eq_false c24;clear c24;have H':=am H;clear H;obtain ⟨Ao41,co41,eo41⟩:=Kd.R_slice HO_9.out;subst eo41;go_wp2
             (try simp only [← hl5_2,← hl5_3])
             go_roundg k3
             case measure => have:=HK1.out;have:=HK2.out;have:=HK3.out;omega
             case rel => exact ⟨(x5_3),(x7_3),(wrap64 (x8_2 + 1)),qq260,H',⟨qq259⟩,⟨by (try simp only [hl5_2]);(try simp only [hl5_3]);(with_reducible repeat (first | apply kA | apply kN | apply kD));exact Kd.R_mono HO_5.out (fun _ hk => hk.1)⟩,⟨by (try simp only [hl5_2]);(try simp only [hl5_3]);(with_reducible repeat (first | apply kA | apply kN | apply kD));exact Kd.R_mono HO_7.out (fun _ hk => hk.1)⟩,⟨qq102⟩,⟨qq123⟩⟩
         ·rw [if_neg c19] at H;exact absurd H (by simp)
        ·rw [if_neg c18] at H;have c18b0 : decide (x8_2 < (x7_2.length : Int)) = false:=decide_eq_false c18;clear c18;obtain rfl:=Option.some.inj H;obtain ⟨Ao42,co42,eo42⟩:=Kd.R_slice HO_7.out;subst eo42;go_wp2
         go_ret
         exact ⟨_,qq216,qq157,qq123⟩
     ·rw [if_neg c11] at H;exact absurd H (by simp)
    ·rw [if_neg c10] at H;exact absurd H (by simp)

end Go.Proofs.Ytimpjccgnkbgmaa.PFnSearch
