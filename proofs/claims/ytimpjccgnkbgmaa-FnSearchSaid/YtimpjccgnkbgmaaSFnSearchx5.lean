/- Contracts of functions that the law FnSearch reaches, for its row: lines that the kit's printer wrote for this claim, set shorter by a program of this session (own.py), and what fell in Lean proved anew. Lean checks them. -/
import Derived.Test.YtimpjccgnkbgmaaSFnSearchx0
import Derived.Test.YtimpjccgnkbgmaaSFnSearchx3
import Derived.Test.YtimpjccgnkbgmaaSFnSearchx4
namespace Go.Proofs.Ytimpjccgnkbgmaa.PFnSearch
open Go.RowKit Go.Proofs.YtimpjccgnkbgmaaW.PrintWords Go.Proofs.YtimpjccgnkbgmaaW.PrintLast Go.Proofs.YtimpjccgnkbgmaaW.PrintMore
attribute [local go_sem] max2_int min2_int max_two min_two max_three min_three max_four min_four   -- for this text's walks alone
set_option linter.unusedVariables false
set_option linter.unusedSimpArgs false

/-! ### impl_distances: function 19 -/
mutual
def impl_distances.l0 : Nat → List Int → List Int → Int → Int → Int → Int → List Int → Option (List Int)
 | 0,_,_,_,_,_,_,_ => none
 | k + 1,x1,x5,x15,x16,x262000,x262001,x262002 => if x16 < x15 then (if x5.length < 17592186044416 then (impl_distances.l0 k x1 (x5 ++ [(-1)]) x15 (wrap64 (x16 + 1)) x262000 x262001 x262002) else (none)) else (impl_distances.l1 k x5 (([] : List Int)) x1 (x1.length : Int) 0 x262000 x262001 x262002)
def impl_distances.l1 : Nat → List Int → List Int → List Int → Int → Int → Int → Int → List Int → Option (List Int)
 | 0,_,_,_,_,_,_,_,_ => none
 | k + 1,x5,x6,x23,x24,x25,x262000,x262001,x262002 => if x25 < x24 then (if 0 ≤ x25 then (if x25 < (x23.length : Int) then ((impl_IsOpen.f k x262000 x262001 x262002 (rd x23 x25)).bind fun t272 => (if t272 = true then (if 0 ≤ (rd x23 x25) then (if (rd x23 x25) < (x5.length : Int) then (if (rd x5 (rd x23 x25)) < 0 then (if x6.length < 17592186044416 then (impl_distances.l1 k (x5.set ((rd x23 x25) : Int).toNat 0) (x6 ++ [rd x23 x25]) x23 x24 (wrap64 (x25 + 1)) x262000 x262001 x262002) else (none)) else (impl_distances.l1 k x5 x6 x23 x24 (wrap64 (x25 + 1)) x262000 x262001 x262002)) else (none)) else (none)) else (impl_distances.l1 k x5 x6 x23 x24 (wrap64 (x25 + 1)) x262000 x262001 x262002))) else (none)) else (none)) else (impl_distances.l2 k x5 x6 x262000 x262001 x262002)
def impl_distances.l2 : Nat → List Int → List Int → Int → Int → List Int → Option (List Int)
 | 0,_,_,_,_,_ => none
 | k + 1,x5,x6,x262000,x262001,x262002 => if (x6.length : Int) > 0 then (if 0 < (x6.length : Int) then (if 1 ≤ (x6.length : Int) then ((impl_Near.f k x262000 x262001 x262002 (rd x6 0)).bind fun t282 => (impl_distances.l3 k x5 (x6.drop (1 : Int).toNat) (rd x6 0) t282 (t282.length : Int) 0 x262000 x262001 x262002)) else (none)) else (none)) else (some x5)
def impl_distances.l3 : Nat → List Int → List Int → Int → List Int → Int → Int → Int → Int → List Int → Option (List Int)
 | 0,_,_,_,_,_,_,_,_,_ => none
 | k + 1,x5,x6,x9,x57,x58,x59,x262000,x262001,x262002 => if x59 < x58 then (if 0 ≤ x59 then (if x59 < (x57.length : Int) then (if 0 ≤ (rd x57 x59) then (if (rd x57 x59) < (x5.length : Int) then (if (rd x5 (rd x57 x59)) < 0 then (if 0 ≤ x9 then (if x9 < (x5.length : Int) then (if x6.length < 17592186044416 then (impl_distances.l3 k (x5.set ((rd x57 x59) : Int).toNat (wrap64 ((rd x5 x9) + 1))) (x6 ++ [rd x57 x59]) x9 x57 x58 (wrap64 (x59 + 1)) x262000 x262001 x262002) else (none)) else (none)) else (none)) else (impl_distances.l3 k x5 x6 x9 x57 x58 (wrap64 (x59 + 1)) x262000 x262001 x262002)) else (none)) else (none)) else (none)) else (none)) else (impl_distances.l2 k x5 x6 x262000 x262001 x262002)
end
def impl_distances.f (k : Nat) (a0_0 : Int) (a0_1 : Int) (l0_2 : List Int) (l1 : List Int) : Option (List Int) := impl_distances.l0 k l1 (([] : List Int)) (l0_2.length : Int) 0 a0_0 a0_1 l0_2
set_option maxHeartbeats 8000000 in
set_option maxRecDepth 100000 in
theorem impl_distances.calls (k : Nat) (a0_0 : Int) (a0_1 : Int) (A0_2 : Option Addr) (c0_2 : Nat) (l0_2 : List Int) (A1 : Option Addr) (c1 : Nat) (l1 : List Int) (r : List Int) (w : World) (hr0_2 : Kd.C (Kd.int .i64) w A0_2 l0_2.length l0_2) (hc0_2 : l0_2.length ≤ c0_2) (hr1 : Kd.C (Kd.int .i64) w A1 l1.length l1) (hc1 : l1.length ≤ c1) (h : impl_distances.f k a0_0 a0_1 l0_2 l1 = some r) :
  Calls Try.prog 19 #[.agg #[.int .i64 a0_0,.int .i64 a0_1,.slice A0_2 l0_2.length c0_2],.slice A1 l1.length c1] w fun e w' => ∃ v0_ : Value,e = .returned (v0_) ∧ Kd.R (Kd.int .i64) 3 w' w.heap.size (fun _ => True) v0_ r ∧ Below w.heap.size w w':=by
 have hu26:=Try.underlying26;have HR0_2:=am hr0_2;have HC0_2:=am hc0_2;clear hr0_2 hc0_2;have HR1:=am hr1;have HC1:=am hc1;clear hr1 hc1;have HB:=am qq354;have H : (impl_distances.l0 k l1 (([] : List Int)) (l0_2.length : Int) 0 a0_0 a0_1 l0_2) = some r:=h;clear h;obtain ⟨y262,hy262⟩ : ∃ y_ : List Int,y_ = (([] : List Int)):=⟨_,rfl⟩
 replace H : (impl_distances.l0 k l1 y262 (l0_2.length : Int) 0 a0_0 a0_1 l0_2) = some r:=by first | (rw [hy262];with_reducible exact H) | (have H2_:=(Option.bind_some _ _).symm.trans H;rw [hy262];with_reducible exact H2_) | (have H2_:=(Option.bind_some _ _).symm.trans H;with_reducible exact H2_) | with_reducible exact H | (rw [hy262];exact H) | exact H
 have Ny262:=am hy262;clear hy262;have H':=am H;clear H
 go_enter Try.func19,Try.ntmps19
 go_wp2_with (first | ((with_reducible refine gate_dst (N:=2) rfl ?_);refine box_event ?hg (N:=2) ?hd (cs:=#[.int .i64 a0_0,.int .i64 a0_1,.slice A0_2 l0_2.length c0_2]) (t:=26) ?hr ?_;(case hd => rfl);(case hg => rfl);(case hr => exact qq261);intro gb261 hg w3 hbox hb;have BK261:=am (hbox);have GW261:=am ((qq108 : w.heap.size ≤ gb261));have GE261:=am ((qq108 : w.heap.size ≤ gb261));replace HB:=am qq358;clear hb hbox hg) | ((with_reducible refine gate_dst (N:=12) rfl ?_);refine Kd.R_lit (Kd.int .i64) _ 3 ?hg (N:=12) ?hd (xs:=([] : List Int)) (inner:=[]) (ok:=fun _ => True) (okp:=fun _ => True) ?hr ?hp (fun _ hk => hk) trivial (Below.refl _ _) (Nat.le_refl _) (by simp) ?_;(case hd => rfl);(case hg => rfl);(case hr => exact qq261);(case hp => exact qq274);intro v263 w4 ho5 hb hg_ hnew_;clear hg_ hnew_;(first | rw [← Ny262.out] at ho5 | (simp only [Int.reduceToNat] at ho5;rw [← Ny262.out] at ho5));have HO264:=am (Kd.R_lower ho5 (below_size qq131));replace BK261:=am qq303;replace HB:=am qq361;clear hb ho5;obtain ⟨hcz6_0,hcz6_1,hcz6_2,hfz6_0,hfz6_1,hfz6_2⟩:=bcl3 BK261.out))
 go_loopg [5,16] k (fun kq v5 v16 w' => ∃ (x5_1 : List Int) (x16_1 : Int),v16 = .int .i64 x16_1 ∧ Aside0 (impl_distances.l0 kq l1 x5_1 (l0_2.length : Int) x16_1 a0_0 a0_1 l0_2 = some r) ∧ Aside0 (kq ≤ k) ∧ Aside0 (Kd.R (Kd.int .i64) 3 w' w.heap.size (fun _ => True) v5 x5_1) ∧ Aside0 (w'.heap[gb261]? = some (.cells #[.int .i64 a0_0,.int .i64 a0_1,(.slice A0_2 l0_2.length c0_2)] 26 (0,0))) ∧ Aside0 (Below w.heap.size w w'))
 case atStart => exact ⟨(y262),(0),qq260,H',⟨Nat.le_refl _⟩,⟨by (with_reducible repeat (first | apply kA | apply kN | apply kD));exact HO264.out⟩,⟨qq202⟩,⟨qq131⟩⟩
 case round =>
  clear H'
  try clear c1
  try clear p2
  try clear hcz6_0
  try clear hcz6_1
  try clear hcz6_2
  try clear hfz6_0
  try clear hfz6_1
  try clear hfz6_2
  obtain ⟨x5_1,x16_1,rfl,HA,HK1,HO_5,BK261,HB⟩:=hrel
  cases gk with
  | zero => exact absurd HA.out (by simp [impl_distances.l0])
  | succ k1 =>
   have H:=HA.out;clear HA;simp only [impl_distances.l0] at H
   by_cases c7 : x16_1 < (l0_2.length : Int)
   ·rw [if_pos c7] at H;have c7b0 : decide (x16_1 < (l0_2.length : Int)) = true:=decide_eq_true c7;clear c7
    by_cases c8 : x5_1.length < 17592186044416
    ·rw [if_pos c8] at H;have LMc8:=am c8;clear c8;obtain ⟨y265,hy265⟩ : ∃ y_ : List Int,y_ = (x5_1 ++ [(-1)]):=⟨_,rfl⟩
     replace H : (impl_distances.l0 k1 l1 y265 (l0_2.length : Int) (wrap64 (x16_1 + 1)) a0_0 a0_1 l0_2) = some r:=by first | (rw [hy265];with_reducible exact H) | (have H2_:=(Option.bind_some _ _).symm.trans H;rw [hy265];with_reducible exact H2_) | (have H2_:=(Option.bind_some _ _).symm.trans H;with_reducible exact H2_) | with_reducible exact H | (rw [hy265];exact H) | exact H
     have Ny265:=am hy265;clear hy265;have H':=am H;clear H;go_wp2_with (first | ((with_reducible refine gate_builtin (b:=.append) (xs:=#[.tmp 18,.tmp 19]) rfl ?_);at_builtin;refine Kd.R_append (Kd.int .i64) (w0:=w) w.heap.size rfl (.tmp 18) (.tmp 19) 24 3 (.int .i64 0) 8 rfl Try.underlying24 info3 rfl (by decide) (by omega) u5 x5_1 (-1) [.int .i64 (-1)] (fun _ => True) (fun _ => False) rfl rfl ?aP (fun _ hk => hk.elim) ?aF ?aO ?aB ?aS ?aL ?_;(case aP => exact rfl);(case aB => exact qq101);(case aF => exact qq272);(case aO => exact qq220);(case aS => exact qq80);(case aL => have:=LMc8.out;omega);intro v266 w9 ho hb hg hat;rw [← Ny265.out] at ho;replace BK261:=am qq283;replace HB:=am (hb);have HO267:=am (ho);clear HO_5;clear ho hb hg hat))
     go_roundg k1
     case measure => have:=HK1.out;omega
     case rel => exact ⟨(y265),(wrap64 (x16_1 + 1)),qq260,H',⟨qq275⟩,⟨by (with_reducible repeat (first | apply kA | apply kN | apply kD));exact HO267.out⟩,⟨qq202⟩,⟨qq131⟩⟩
    ·rw [if_neg c8] at H;exact absurd H (by simp)
   ·rw [if_neg c7] at H;have c7b0 : decide (x16_1 < (l0_2.length : Int)) = false:=decide_eq_false c7;clear c7;obtain ⟨y268,hy268⟩ : ∃ y_ : List Int,y_ = (([] : List Int)):=⟨_,rfl⟩
    replace H : (impl_distances.l1 k1 x5_1 y268 l1 (l1.length : Int) 0 a0_0 a0_1 l0_2) = some r:=by first | (rw [hy268];with_reducible exact H) | (have H2_:=(Option.bind_some _ _).symm.trans H;rw [hy268];with_reducible exact H2_) | (have H2_:=(Option.bind_some _ _).symm.trans H;with_reducible exact H2_) | with_reducible exact H | (rw [hy268];exact H) | exact H
    have Ny268:=am hy268;clear hy268;have H':=am H;clear H;go_wp2_with (first | ((with_reducible refine gate_dst (N:=22) rfl ?_);refine Kd.R_lit (Kd.int .i64) _ 3 ?hg (N:=22) ?hd (xs:=([] : List Int)) (inner:=[]) (ok:=fun _ => True) (okp:=fun _ => True) ?hr ?hp (fun _ hk => hk) trivial (Below.refl _ _) (Nat.le_refl _) (by simp) ?_;(case hd => rfl);(case hg => rfl);(case hr => exact qq261);(case hp => exact qq274);intro v269 w10 ho11 hb hg_ hnew_;clear hg_ hnew_;(first | rw [← Ny268.out] at ho11 | (simp only [Int.reduceToNat] at ho11;rw [← Ny268.out] at ho11));have HO270:=am (Kd.R_lower (Kd.R_new' ho11 (Kd.R_lt qq251)) (below_size qq131));replace HO_5:=am (Kd.R_elder' qq251 (Kd.R_base ho11) hb);replace BK261:=am qq303;replace HB:=am qq361;clear hb ho11))
    go_loopg [6,25] k1 (fun kq v6 v25 w' => ∃ (x5_2 : List Int) (x6_2 : List Int) (x25_2 : Int),v25 = .int .i64 x25_2 ∧ Aside0 (impl_distances.l1 kq x5_2 x6_2 l1 (l1.length : Int) x25_2 a0_0 a0_1 l0_2 = some r) ∧ Aside0 (kq ≤ k1) ∧ Aside0 (Kd.R (Kd.int .i64) 3 w' w.heap.size (fun k_ => some k_ ≠ (v6 : Value).ownBlock) u5 x5_2) ∧ Aside0 (Kd.Q (Kd.int .i64) 3 w' w.heap.size (fun k_ => some k_ ≠ (u5 : Value).ownBlock) v6 x6_2) ∧ Aside0 (w'.heap[gb261]? = some (.cells #[.int .i64 a0_0,.int .i64 a0_1,(.slice A0_2 l0_2.length c0_2)] 26 (0,0))) ∧ Aside0 (Below w.heap.size w w'))
    case atStart => exact ⟨(x5_1),(y268),(0),qq260,H',⟨Nat.le_refl _⟩,⟨qq161⟩,⟨Kd.Q_of_R (by (with_reducible repeat (first | apply kA | apply kN | apply kD));exact Kd.R_mono HO270.out (fun _ hk => hk.2))⟩,⟨qq202⟩,⟨qq131⟩⟩
    case round =>
     clear H'
     try clear c1
     try clear p2
     try clear p6
     try clear c7
     try clear c7b0
     try clear c8
     try clear hcz6_0
     try clear hcz6_1
     try clear hcz6_2
     try clear hfz6_0
     try clear hfz6_1
     try clear hfz6_2
     try clear p2
     obtain ⟨x5_2,x6_2,x25_2,rfl,HA,HK2,HO_5,HO_6,BK261,HB⟩:=hrel
     cases gk with
     | zero => exact absurd HA.out (by simp [impl_distances.l1])
     | succ k2 =>
      have H:=HA.out;clear HA;simp only [impl_distances.l1] at H
      by_cases c12 : x25_2 < (l1.length : Int)
      ·rw [if_pos c12] at H;have c12b0 : decide (x25_2 < (l1.length : Int)) = true:=decide_eq_true c12;clear c12
       by_cases c13 : 0 ≤ x25_2
       ·rw [if_pos c13] at H;have c13b0 : decide (0 ≤ x25_2) = true:=decide_eq_true c13;clear c13
        by_cases c14 : x25_2 < (l1.length : Int)
        ·rw [if_pos c14] at H;have c14b0 : decide (x25_2 < (l1.length : Int)) = true:=decide_eq_true c14;clear c14;replace H:=bS.mp H;obtain ⟨t272,A150,H⟩:=H;replace H : (if t272 = true then (if 0 ≤ (rd l1 x25_2) then (if (rd l1 x25_2) < (x5_2.length : Int) then (if (rd x5_2 (rd l1 x25_2)) < 0 then (if x6_2.length < 17592186044416 then (impl_distances.l1 k2 (x5_2.set ((rd l1 x25_2) : Int).toNat 0) (x6_2 ++ [rd l1 x25_2]) l1 (l1.length : Int) (wrap64 (x25_2 + 1)) a0_0 a0_1 l0_2) else (none)) else (impl_distances.l1 k2 x5_2 x6_2 l1 (l1.length : Int) (wrap64 (x25_2 + 1)) a0_0 a0_1 l0_2)) else (none)) else (none)) else (impl_distances.l1 k2 x5_2 x6_2 l1 (l1.length : Int) (wrap64 (x25_2 + 1)) a0_0 a0_1 l0_2)) = some r:=H;have A15:=am A150;clear A150
         by_cases c16 : t272 = true
         ·subst c16;have H1 : (if 0 ≤ (rd l1 x25_2) then (if (rd l1 x25_2) < (x5_2.length : Int) then (if (rd x5_2 (rd l1 x25_2)) < 0 then (if x6_2.length < 17592186044416 then (impl_distances.l1 k2 (x5_2.set ((rd l1 x25_2) : Int).toNat 0) (x6_2 ++ [rd l1 x25_2]) l1 (l1.length : Int) (wrap64 (x25_2 + 1)) a0_0 a0_1 l0_2) else (none)) else (impl_distances.l1 k2 x5_2 x6_2 l1 (l1.length : Int) (wrap64 (x25_2 + 1)) a0_0 a0_1 l0_2)) else (none)) else (none)) = some r:=by rw [if_pos rfl] at H;exact H
          clear H;have H:=H1;clear H1
          by_cases c17 : 0 ≤ (rd l1 x25_2)
          ·rw [if_pos c17] at H;have c17b0 : decide (0 ≤ (rd l1 x25_2)) = true:=decide_eq_true c17;clear c17
           by_cases c18 : (rd l1 x25_2) < (x5_2.length : Int)
           ·rw [if_pos c18] at H;have c18b0 : decide ((rd l1 x25_2) < (x5_2.length : Int)) = true:=decide_eq_true c18;clear c18
            by_cases c19 : (rd x5_2 (rd l1 x25_2)) < 0
            ·rw [if_pos c19] at H;have c19b0 : decide ((rd x5_2 (rd l1 x25_2)) < 0) = true:=decide_eq_true c19;clear c19;obtain ⟨y274,hy274⟩ : ∃ y_ : List Int,y_ = (x5_2.set ((rd l1 x25_2) : Int).toNat 0):=⟨_,rfl⟩
             replace H : (if x6_2.length < 17592186044416 then (impl_distances.l1 k2 y274 (x6_2 ++ [rd l1 x25_2]) l1 (l1.length : Int) (wrap64 (x25_2 + 1)) a0_0 a0_1 l0_2) else (none)) = some r:=by first | (rw [hy274];with_reducible exact H) | (have H2_:=(Option.bind_some _ _).symm.trans H;rw [hy274];with_reducible exact H2_) | (have H2_:=(Option.bind_some _ _).symm.trans H;with_reducible exact H2_) | with_reducible exact H | (rw [hy274];exact H) | exact H
             have Ny274:=am hy274;clear hy274
             by_cases c21 : x6_2.length < 17592186044416
             ·rw [if_pos c21] at H;have LMc21:=am c21;clear c21;obtain ⟨y275,hy275⟩ : ∃ y_ : List Int,y_ = (x6_2 ++ [rd l1 x25_2]):=⟨_,rfl⟩
              replace H : (impl_distances.l1 k2 y274 y275 l1 (l1.length : Int) (wrap64 (x25_2 + 1)) a0_0 a0_1 l0_2) = some r:=by first | (rw [hy275];with_reducible exact H) | (have H2_:=(Option.bind_some _ _).symm.trans H;rw [hy275];with_reducible exact H2_) | (have H2_:=(Option.bind_some _ _).symm.trans H;with_reducible exact H2_) | with_reducible exact H | (rw [hy275];exact H) | exact H
              have Ny275:=am hy275;clear hy275;have H':=am H;clear H;have p271 : 0 ≤ (x25_2 : Int):=odt qq258;have q271 : x25_2 < (l1.length : Int):=odt qq258;obtain ⟨ad271,e271,hx271_0⟩:=Kd.at_int HR1.out x25_2 p271 q271
              cases e271
              replace hx271_0:=(ct HB.out hx271_0 :)
              replace p271:=eq_true p271;replace q271:=eq_true q271;obtain ⟨hcz22_0,hcz22_1,hcz22_2,hfz22_0,hfz22_1,hfz22_2⟩:=bcl3 BK261.out;go_wp2_with (first | ((with_reducible refine gate_callee (f:=18) rfl ?_);refine goesL_ (some 31) rfl rfl Try.func18 (by kernel_rfl) rfl #[.agg #[.int .i64 a0_0,.int .i64 a0_1,.slice A0_2 l0_2.length c0_2],.int .i64 (rd l1 x25_2)] rfl qq139 ?_;(with_reducible refine (impl_IsOpen.calls k2 a0_0 a0_1 _ _ l0_2 (rd l1 x25_2) true _ ?side1 ?side2 A15.out).mono ?_);(case side1 => exact qq83);(case side2 => exact qq276);rintro e w23 ⟨rfl,hb⟩;refine ⟨_,rfl,?_⟩;replace HO_5:=am qq360;replace HO_6:=am (Kd.Q_below qq177 hb);replace BK261:=am qq303;replace HB:=am qq361;(try clear hb);(try clear hb2);(try clear hk);(try clear hi);obtain ⟨Ao24,co24,eo24⟩:=Kd.R_slice HO_5.out;subst eo24;have p273 : 0 ≤ ((rd l1 x25_2) : Int):=odt qq258;have q273 : (rd l1 x25_2) < (x5_2.length : Int):=odt qq258;obtain ⟨ad273,e273,hx273_0⟩:=Kd.at_int (Kd.R_reads' HO_5.out).2.2 (rd l1 x25_2) p273 q273;cases e273;replace p273:=eq_true p273;replace q273:=eq_true q273;have p20 : 0 ≤ ((rd l1 x25_2) : Int):=odt qq258;have q20 : ((rd l1 x25_2) : Int) < ((x5_2.length : Int) : Int):=odt qq258;obtain ⟨go20,co20,eo20,gb20,gl20,cl20,HG20⟩:=Kd.R_form HO_5.out (by omega);(first | cases eo20 | (injection eo20 with ea_ en_ ec_;(first | subst ea_ | (injection ea_ with ea_;subst ea_));subst ec_;clear en_));have GB20:=am gb20;have GG20:=am HG20;clear gb20 gl20 HG20;(first | simp only [add_plain] at hx273_0 | skip);obtain ⟨hx20_0,hf20_0⟩:=Kd.R_celln 0 HO_5.out ((rd l1 x25_2) : Int) p20 q20;replace p20:=eq_true p20;replace q20:=eq_true q20;obtain ⟨hy25_,hz25_⟩:=Kd.R_celln 0 HO_5.out ((rd l1 x25_2) : Int) (odt qq258) (odt qq258);have HP25:=Kd.R_putg HO_5.out ((rd l1 x25_2) : Int) 0) | ((with_reducible refine gate_store (t:=3) (p:=41) rfl ?_);refine store_event (t:=3) (p:=41) (v:=?vo_w26) (w1:=(w23.setCell ⟨go20,((rd l1 x25_2) : Int).toNat,none⟩ (.int .i64 0))) ?hg ?ho ?hn ?hr ?_;(case ho => rfl);(case hg => rfl);(case hn => rfl);(case hr => exact qq261);intro w26 hw;have hg : w23.grownBy w26 (some go20):=(by rw [hw];exact HP25.2);have hp_ : Kd.R (Kd.int .i64) 3 w26 w.heap.size (fun k_ => some k_ ≠ (u6 : Value).ownBlock) (.slice (some ⟨go20,0,none⟩) x5_2.length co24) y274:=(by rw [hw,Ny274.out];exact HP25.1);clear HP25;replace HO_6:=am (Kd.Q_after (v:=(.slice (some ⟨go20,0,none⟩) x5_2.length co24)) (v1:=(.slice (some ⟨go20,0,none⟩) x5_2.length co24)) (ok:=(fun _ => True)) (by (with_reducible repeat (first | apply Kd.Q_alloc | apply Kd.Q_drewN | apply Kd.Q_drew));exact Kd.Q_mono HO_6.out (fun _ hk => ⟨trivial,hk⟩)) hg (.inl rfl));replace BK261:=am qq283;replace HO_5:=am (hp_);replace HB:=am ((by rw [hw];exact below_set (HB.out) GB20.out : Below w.heap.size w w26));clear hg hw hp_) | ((with_reducible refine gate_builtin (b:=.append) (xs:=#[.tmp 42,.tmp 44]) rfl ?_);at_builtin;refine Kd.Q_append (Kd.int .i64) (w0:=w) w.heap.size rfl (.tmp 42) (.tmp 44) 24 3 (.int .i64 0) 8 rfl Try.underlying24 info3 rfl (by decide) (by omega) u6 x6_2 (rd l1 x25_2) [.int .i64 (rd l1 x25_2)] (fun k_ => some k_ ≠ (.slice (some ⟨go20,0,none⟩) x5_2.length co24 : Value).ownBlock) (fun _ => False) rfl rfl ?aP (fun _ hk => hk.elim) ?aF ?aO ?aB ?aS ?aL ?_;(case aP => exact rfl);(case aB => exact qq101);(case aF => exact (fun k_ hk => Kd.fresh' (Kd.R_lt qq251) k_ hk));(case aO => exact (by (with_reducible repeat (first | apply Kd.Q_alloc | apply Kd.Q_drewN | apply Kd.Q_drew));exact Kd.Q_mono HO_6.out (fun _ hk => hk.2)));(case aS => exact qq80);(case aL => have:=LMc21.out;omega);intro v276 w27 ho hb hg hat;rw [← Ny275.out] at ho;replace HO_5:=am (Kd.R_after (ok:=(fun _ => True)) (by (with_reducible repeat (first | apply kA | apply kN | apply kD));exact Kd.R_mono HO_5.out (fun _ hk => ⟨trivial,hk⟩)) hg hat);replace BK261:=am qq284;replace HB:=am (hb);have HO277:=am (ho);clear HO_6;clear ho hb hg hat))
              go_roundg k2
              case measure => have:=HK1.out;have:=HK2.out;omega
              case rel => exact ⟨(y274),(y275),(wrap64 (x25_2 + 1)),qq260,H',⟨qq266⟩,⟨qq161⟩,⟨by (with_reducible repeat (first | apply Kd.Q_alloc | apply Kd.Q_drewN | apply Kd.Q_drew));exact HO277.out⟩,⟨qq202⟩,⟨qq131⟩⟩
             ·rw [if_neg c21] at H;exact absurd H (by simp)
            ·rw [if_neg c19] at H;have c19b0 : decide ((rd x5_2 (rd l1 x25_2)) < 0) = false:=decide_eq_false c19;clear c19;have H':=am H;clear H;have p271 : 0 ≤ (x25_2 : Int):=odt qq258;have q271 : x25_2 < (l1.length : Int):=odt qq258;obtain ⟨ad271,e271,hx271_0⟩:=Kd.at_int HR1.out x25_2 p271 q271
             cases e271
             replace hx271_0:=(ct HB.out hx271_0 :)
             replace p271:=eq_true p271;replace q271:=eq_true q271;obtain ⟨hcz28_0,hcz28_1,hcz28_2,hfz28_0,hfz28_1,hfz28_2⟩:=bcl3 BK261.out;go_wp2_with (first | ((with_reducible refine gate_callee (f:=18) rfl ?_);refine goesL_ (some 31) rfl rfl Try.func18 (by kernel_rfl) rfl #[.agg #[.int .i64 a0_0,.int .i64 a0_1,.slice A0_2 l0_2.length c0_2],.int .i64 (rd l1 x25_2)] rfl qq139 ?_;(with_reducible refine (impl_IsOpen.calls k2 a0_0 a0_1 _ _ l0_2 (rd l1 x25_2) true _ ?side1 ?side2 A15.out).mono ?_);(case side1 => exact qq83);(case side2 => exact qq276);rintro e w29 ⟨rfl,hb⟩;refine ⟨_,rfl,?_⟩;replace HO_5:=am qq360;replace HO_6:=am (Kd.Q_below qq177 hb);replace BK261:=am qq303;replace HB:=am qq361;(try clear hb);(try clear hb2);(try clear hk);(try clear hi);obtain ⟨Ao30,co30,eo30⟩:=Kd.R_slice HO_5.out;subst eo30;have p273 : 0 ≤ ((rd l1 x25_2) : Int):=odt qq258;have q273 : (rd l1 x25_2) < (x5_2.length : Int):=odt qq258;obtain ⟨ad273,e273,hx273_0⟩:=Kd.at_int (Kd.R_reads' HO_5.out).2.2 (rd l1 x25_2) p273 q273;cases e273;replace p273:=eq_true p273;replace q273:=eq_true q273))
             go_roundg k2
             case measure => have:=HK1.out;have:=HK2.out;omega
             case rel => exact ⟨(x5_2),(x6_2),(wrap64 (x25_2 + 1)),qq260,H',⟨qq266⟩,⟨qq251⟩,⟨qq177⟩,⟨qq202⟩,⟨qq131⟩⟩
           ·rw [if_neg c18] at H;exact absurd H (by simp)
          ·rw [if_neg c17] at H;exact absurd H (by simp)
         ·replace c16:=Bool.eq_false_iff.mpr c16;subst c16;have H1 : (impl_distances.l1 k2 x5_2 x6_2 l1 (l1.length : Int) (wrap64 (x25_2 + 1)) a0_0 a0_1 l0_2) = some r:=by rw [if_neg (show ¬ (false = true) by decide)] at H;exact H
          clear H;have H:=H1;clear H1;have H':=am H;clear H;have p271 : 0 ≤ (x25_2 : Int):=odt qq258;have q271 : x25_2 < (l1.length : Int):=odt qq258;obtain ⟨ad271,e271,hx271_0⟩:=Kd.at_int HR1.out x25_2 p271 q271
          cases e271
          replace hx271_0:=(ct HB.out hx271_0 :)
          replace p271:=eq_true p271;replace q271:=eq_true q271;obtain ⟨hcz31_0,hcz31_1,hcz31_2,hfz31_0,hfz31_1,hfz31_2⟩:=bcl3 BK261.out;go_wp2_with (first | ((with_reducible refine gate_callee (f:=18) rfl ?_);refine goesL_ (some 31) rfl rfl Try.func18 (by kernel_rfl) rfl #[.agg #[.int .i64 a0_0,.int .i64 a0_1,.slice A0_2 l0_2.length c0_2],.int .i64 (rd l1 x25_2)] rfl qq139 ?_;(with_reducible refine (impl_IsOpen.calls k2 a0_0 a0_1 _ _ l0_2 (rd l1 x25_2) false _ ?side1 ?side2 A15.out).mono ?_);(case side1 => exact qq83);(case side2 => exact qq276);rintro e w32 ⟨rfl,hb⟩;refine ⟨_,rfl,?_⟩;replace HO_5:=am qq360;replace HO_6:=am (Kd.Q_below qq177 hb);replace BK261:=am qq303;replace HB:=am qq361;(try clear hb);(try clear hb2);(try clear hk);(try clear hi)))
          go_roundg k2
          case measure => have:=HK1.out;have:=HK2.out;omega
          case rel => exact ⟨(x5_2),(x6_2),(wrap64 (x25_2 + 1)),qq260,H',⟨qq266⟩,⟨qq251⟩,⟨qq177⟩,⟨qq202⟩,⟨qq131⟩⟩
        ·rw [if_neg c14] at H;exact absurd H (by simp)
       ·rw [if_neg c13] at H;exact absurd H (by simp)
      ·rw [if_neg c12] at H;have c12b0 : decide (x25_2 < (l1.length : Int)) = false:=decide_eq_false c12;clear c12;have H':=am H;clear H;go_wp2
       go_loopg [6] k2 (fun kq v6 w' => ∃ (x5_3 : List Int) (x6_3 : List Int),Aside0 (impl_distances.l2 kq x5_3 x6_3 a0_0 a0_1 l0_2 = some r) ∧ Aside0 (kq ≤ k2) ∧ Aside0 (Kd.R (Kd.int .i64) 3 w' w.heap.size (fun k_ => some k_ ≠ (v6 : Value).ownBlock) u5 x5_3) ∧ Aside0 (Kd.Q (Kd.int .i64) 3 w' w.heap.size (fun k_ => some k_ ≠ (u5 : Value).ownBlock) v6 x6_3) ∧ Aside0 (w'.heap[gb261]? = some (.cells #[.int .i64 a0_0,.int .i64 a0_1,(.slice A0_2 l0_2.length c0_2)] 26 (0,0))) ∧ Aside0 (Below w.heap.size w w'))
       case atStart => exact ⟨(x5_2),(x6_2),H',⟨Nat.le_refl _⟩,⟨qq251⟩,⟨qq177⟩,⟨qq202⟩,⟨qq131⟩⟩
       case round =>
        clear H'
        try clear c1
        try clear c2
        try clear p2
        try clear q2
        try clear hx2
        try clear hf2
        try clear p6
        try clear c7
        try clear c7b0
        try clear c8
        try clear c12
        try clear c12b0
        try clear c13
        try clear c13b0
        try clear c14
        try clear c14b0
        try clear c16
        try clear c17
        try clear c17b0
        try clear c18
        try clear c18b0
        try clear c19
        try clear c19b0
        try clear p20
        try clear q20
        try clear hx20
        try clear hf20
        try clear c21
        try clear p27
        try clear q27
        try clear hx27
        try clear hcz22_0
        try clear hcz22_1
        try clear hcz22_2
        try clear hcz28_0
        try clear hcz28_1
        try clear hcz28_2
        try clear hcz31_0
        try clear hcz31_1
        try clear hcz31_2
        try clear hcz6_0
        try clear hcz6_1
        try clear hcz6_2
        try clear hfz22_0
        try clear hfz22_1
        try clear hfz22_2
        try clear hfz28_0
        try clear hfz28_1
        try clear hfz28_2
        try clear hfz31_0
        try clear hfz31_1
        try clear hfz31_2
        try clear hfz6_0
        try clear hfz6_1
        try clear hfz6_2
        try clear hx20_0
        try clear hx271_0
        try clear hx273_0
        try clear p2
        try clear p20
        try clear p271
        try clear p273
        try clear p6
        try clear q20
        try clear q271
        try clear q273
        obtain ⟨x5_3,x6_3,HA,HK3,HO_5,HO_6,BK261,HB⟩:=hrel
        cases gk with
        | zero => exact absurd HA.out (by simp [impl_distances.l2])
        | succ k3 =>
         have H:=HA.out;clear HA;simp only [impl_distances.l2] at H
         by_cases c33 : (x6_3.length : Int) > 0
         ·rw [if_pos c33] at H;have c33b0 : decide (0 < (x6_3.length : Int)) = true:=decide_eq_true c33;have c33b1 : decide (0 < x6_3.length) = true:=decide_eq_true (by omega);clear c33
          by_cases c34 : 0 < (x6_3.length : Int)
          ·rw [if_pos c34] at H;have c34b0 : decide (0 < (x6_3.length : Int)) = true:=decide_eq_true c34;have c34b1 : decide (0 < x6_3.length) = true:=decide_eq_true (by omega);clear c34
           by_cases c35 : 1 ≤ (x6_3.length : Int)
           ·rw [if_pos c35] at H;have c35b0:=eq_true c35;have c35b1 : decide (1 ≤ (x6_3.length : Int)) = true:=decide_eq_true c35;clear c35;obtain ⟨y279,hy279⟩ : ∃ y_ : List Int,y_ = (x6_3.drop (1 : Int).toNat):=⟨_,rfl⟩
            replace H : ((impl_Near.f k3 a0_0 a0_1 l0_2 (rd x6_3 0)).bind fun t282 => (impl_distances.l3 k3 x5_3 y279 (rd x6_3 0) t282 (t282.length : Int) 0 a0_0 a0_1 l0_2)) = some r:=by first | (rw [hy279];with_reducible exact H) | (have H2_:=(Option.bind_some _ _).symm.trans H;rw [hy279];with_reducible exact H2_) | (have H2_:=(Option.bind_some _ _).symm.trans H;with_reducible exact H2_) | with_reducible exact H | (rw [hy279];exact H) | exact H
            have Ny279:=am hy279;clear hy279;replace H:=bS.mp H;obtain ⟨t282,A360,H⟩:=H;replace H : (impl_distances.l3 k3 x5_3 y279 (rd x6_3 0) t282 (t282.length : Int) 0 a0_0 a0_1 l0_2) = some r:=H;have A36:=am A360;clear A360;have H':=am H;clear H;obtain ⟨Ao37,co37,eo37,_⟩:=Kd.Q_slice HO_6.out;subst eo37;have p278 : 0 ≤ (0 : Int):=(by omega)
            have q278 : 0 < (x6_3.length : Int):=odt qq258;obtain ⟨ad278,e278,hx278_0⟩:=Kd.at_int (Kd.Q_reads' HO_6.out).2.2 0 p278 q278
            cases e278
            have qi278 : (0 < x6_3.length) = True:=eq_true (by omega);(try rw [show ((0 : Int)).toNat = 0 from rfl] at hx278_0);(try rw [Addr.add_zero'] at hx278_0);replace p278:=eq_true p278;replace q278:=eq_true q278;have q38 : (1 : Int) ≤ ((x6_3.length : Int) : Int):=odt qq258;obtain ⟨i038,hi038,_,hsz38,_⟩:=info_parts info3;have hcut38:=cut_from (P:=Try.prog) 24 3 .i64 Try.underlying24 hi038 1 hsz38 (some ad278) x6_3.length co37 1 (by omega) q38;have hr38:=Kd.Q_drop (k:=(1 : Int).toNat) HO_6.out (by omega);obtain ⟨A38,hA38⟩ : ∃ A1,A1 = (if co37 = (1 : Int).toNat then (some ad278) else ((some ad278) : Option Addr).map (·.add ((1 : Int).toNat * 1))):=⟨_,rfl⟩
            obtain ⟨c38,hc38⟩ : ∃ c1,c1 = co37 - (1 : Int).toNat:=⟨_,rfl⟩
            have hy38 : y279.length = x6_3.length - (1 : Int).toNat:=(by rw [Ny279.out,List.length_drop])
            rw [← Ny279.out] at hr38;rw [← hy38,← hA38,← hc38] at hcut38;replace hr38 : Kd.Q (Kd.int .i64) 3 wr w.heap.size (fun k_ => some k_ ≠ (u5 : Value).ownBlock) (.slice A38 y279.length c38) y279:=(by rw [hA38,hc38,hy38];exact hr38)
            have HE38 : Aside0 ((Value.slice A38 y279.length c38).ownBlock = (.slice (some ad278) x6_3.length co37 : Value).ownBlock):=⟨by rw [hA38];split <;> (cases ((some ad278) : Option Addr) <;> rfl)⟩
            clear hy38 hi038 hsz38 HO_6 hA38 hc38;have HO281:=am hr38;clear hr38;replace q38:=eq_true q38;have n_:=am (Kd.R_mono (ok':=fun k_ => some k_ ≠ (.slice A38 y279.length c38 : Value).ownBlock) HO_5.out (fun k_ hk => (by rw [HE38.out];exact hk)));clear HO_5;have HO_5:=n_;clear n_;obtain ⟨hcz39_0,hcz39_1,hcz39_2,hfz39_0,hfz39_1,hfz39_2⟩:=bcl3 BK261.out;go_wp2_with (first | ((with_reducible refine gate_callee (f:=32) rfl ?_);refine goesL_ (some 57) rfl rfl Try.func32 (by kernel_rfl) rfl #[.agg #[.int .i64 a0_0,.int .i64 a0_1,.slice A0_2 l0_2.length c0_2],.int .i64 (rd x6_3 0)] rfl qq139 ?_;(with_reducible refine (impl_Near.calls k3 a0_0 a0_1 _ _ l0_2 (rd x6_3 0) t282 _ ?side1 ?side2 A36.out).mono ?_);(case side1 => exact qq83);(case side2 => exact qq276);rintro e w40 ⟨v283,rfl,ho0,hb⟩;refine ⟨_,rfl,?_⟩;have HO284:=am (Kd.R_lower (Kd.R_new' (Kd.R_new' ho0 (Kd.R_lt qq251)) (Kd.Q_lt qq173)) (below_size qq131));replace HO_5:=am (Kd.R_elder' qq251 (Kd.R_base ho0) hb);replace HO281:=am (Kd.Q_elder' qq173 (Kd.R_base ho0) hb);replace BK261:=am qq303;replace HB:=am qq361;(try clear hb);(try clear hb2);(try clear hk);(try clear hi);(try clear ho0);obtain ⟨Ao41,co41,eo41⟩:=Kd.R_slice HO284.out;subst eo41))
            go_loopg [6,59] k3 (fun kq v6 v59 w' => ∃ (x5_4 : List Int) (x6_4 : List Int) (x59_4 : Int),v59 = .int .i64 x59_4 ∧ Aside0 (impl_distances.l3 kq x5_4 x6_4 (rd x6_3 0) t282 (t282.length : Int) x59_4 a0_0 a0_1 l0_2 = some r) ∧ Aside0 (kq ≤ k3) ∧ Aside0 (Kd.R (Kd.int .i64) 3 w' w.heap.size (fun k_ => some k_ ≠ (v6 : Value).ownBlock ∧ some k_ ≠ ((.slice Ao41 t282.length co41) : Value).ownBlock) u5 x5_4) ∧ Aside0 (Kd.Q (Kd.int .i64) 3 w' w.heap.size (fun k_ => some k_ ≠ (u5 : Value).ownBlock ∧ some k_ ≠ ((.slice Ao41 t282.length co41) : Value).ownBlock) v6 x6_4) ∧ Aside0 (Kd.R (Kd.int .i64) 3 w' w.heap.size (fun k_ => some k_ ≠ (u5 : Value).ownBlock ∧ some k_ ≠ (v6 : Value).ownBlock) (.slice Ao41 t282.length co41) t282) ∧ Aside0 (w'.heap[gb261]? = some (.cells #[.int .i64 a0_0,.int .i64 a0_1,(.slice A0_2 l0_2.length c0_2)] 26 (0,0))) ∧ Aside0 (Below w.heap.size w w'))
            case atStart => exact ⟨(x5_3),(y279),(0),qq260,H',⟨Nat.le_refl _⟩,⟨qq251⟩,⟨qq173⟩,⟨by (with_reducible repeat (first | apply kA | apply kN | apply kD));exact Kd.R_mono HO284.out (fun _ hk => ⟨hk.1.2,hk.2⟩)⟩,⟨qq202⟩,⟨qq131⟩⟩
            case round =>
             clear H'
             try clear c1
             try clear c2
             try clear p2
             try clear q2
             try clear hx2
             try clear qi2
             try clear hf2
             try clear c3
             try clear q3
             try clear p6
             try clear c7
             try clear c7b0
             try clear c8
             try clear c12
             try clear c12b0
             try clear c13
             try clear c13b0
             try clear c14
             try clear c14b0
             try clear c16
             try clear c17
             try clear c17b0
             try clear c18
             try clear c18b0
             try clear c19
             try clear c19b0
             try clear p20
             try clear q20
             try clear hx20
             try clear hf20
             try clear c21
             try clear p27
             try clear q27
             try clear hx27
             try clear qi27
             try clear c32
             try clear c33
             try clear c33b0
             try clear c33b1
             try clear c34
             try clear c34b0
             try clear c34b1
             try clear c35
             try clear c35b0
             try clear c35b1
             try clear c38
             try clear q38
             try clear hcz22_0
             try clear hcz22_1
             try clear hcz22_2
             try clear hcz28_0
             try clear hcz28_1
             try clear hcz28_2
             try clear hcz31_0
             try clear hcz31_1
             try clear hcz31_2
             try clear hcz39_0
             try clear hcz39_1
             try clear hcz39_2
             try clear hcz6_0
             try clear hcz6_1
             try clear hcz6_2
             try clear hfz22_0
             try clear hfz22_1
             try clear hfz22_2
             try clear hfz28_0
             try clear hfz28_1
             try clear hfz28_2
             try clear hfz31_0
             try clear hfz31_1
             try clear hfz31_2
             try clear hfz39_0
             try clear hfz39_1
             try clear hfz39_2
             try clear hfz6_0
             try clear hfz6_1
             try clear hfz6_2
             try clear hx20_0
             try clear hx271_0
             try clear hx273_0
             try clear hx278_0
             try clear p2
             try clear p20
             try clear p27
             try clear p271
             try clear p273
             try clear p278
             try clear p6
             try clear q2
             try clear q20
             try clear q27
             try clear q271
             try clear q273
             try clear q278
             try clear q38
             obtain ⟨x5_4,x6_4,x59_4,rfl,HA,HK4,HO_5,HO_6,HO_57,BK261,HB⟩:=hrel
             cases gk with
             | zero => exact absurd HA.out (by simp [impl_distances.l3])
             | succ k4 =>
              have H:=HA.out;clear HA;simp only [impl_distances.l3] at H
              by_cases c42 : x59_4 < (t282.length : Int)
              ·rw [if_pos c42] at H;have c42b0 : decide (x59_4 < (t282.length : Int)) = true:=decide_eq_true c42;clear c42
               by_cases c43 : 0 ≤ x59_4
               ·rw [if_pos c43] at H;have c43b0 : decide (0 ≤ x59_4) = true:=decide_eq_true c43;clear c43
                by_cases c44 : x59_4 < (t282.length : Int)
                ·rw [if_pos c44] at H;have c44b0 : decide (x59_4 < (t282.length : Int)) = true:=decide_eq_true c44;clear c44
                 by_cases c45 : 0 ≤ (rd t282 x59_4)
                 ·rw [if_pos c45] at H;have c45b0 : decide (0 ≤ (rd t282 x59_4)) = true:=decide_eq_true c45;clear c45
                  by_cases c46 : (rd t282 x59_4) < (x5_4.length : Int)
                  ·rw [if_pos c46] at H;have c46b0 : decide ((rd t282 x59_4) < (x5_4.length : Int)) = true:=decide_eq_true c46;clear c46
                   by_cases c47 : (rd x5_4 (rd t282 x59_4)) < 0
                   ·rw [if_pos c47] at H;have c47b0 : decide ((rd x5_4 (rd t282 x59_4)) < 0) = true:=decide_eq_true c47;clear c47
                    by_cases c48 : 0 ≤ (rd x6_3 0)
                    ·rw [if_pos c48] at H;have c48b0 : decide (0 ≤ (rd x6_3 0)) = true:=decide_eq_true c48;clear c48
                     by_cases c49 : (rd x6_3 0) < (x5_4.length : Int)
                     ·rw [if_pos c49] at H;have c49b0 : decide ((rd x6_3 0) < (x5_4.length : Int)) = true:=decide_eq_true c49;clear c49;obtain ⟨y288,hy288⟩ : ∃ y_ : List Int,y_ = (x5_4.set ((rd t282 x59_4) : Int).toNat (wrap64 ((rd x5_4 (rd x6_3 0)) + 1))):=⟨_,rfl⟩
                      replace H : (if x6_4.length < 17592186044416 then (impl_distances.l3 k4 y288 (x6_4 ++ [rd t282 x59_4]) (rd x6_3 0) t282 (t282.length : Int) (wrap64 (x59_4 + 1)) a0_0 a0_1 l0_2) else (none)) = some r:=by first | (rw [hy288];with_reducible exact H) | (have H2_:=(Option.bind_some _ _).symm.trans H;rw [hy288];with_reducible exact H2_) | (have H2_:=(Option.bind_some _ _).symm.trans H;with_reducible exact H2_) | with_reducible exact H | (rw [hy288];exact H) | exact H
                      have Ny288:=am hy288;clear hy288
                      by_cases c51 : x6_4.length < 17592186044416
                      ·rw [if_pos c51] at H;have LMc51:=am c51;clear c51;obtain ⟨y289,hy289⟩ : ∃ y_ : List Int,y_ = (x6_4 ++ [rd t282 x59_4]):=⟨_,rfl⟩
                       replace H : (impl_distances.l3 k4 y288 y289 (rd x6_3 0) t282 (t282.length : Int) (wrap64 (x59_4 + 1)) a0_0 a0_1 l0_2) = some r:=by first | (rw [hy289];with_reducible exact H) | (have H2_:=(Option.bind_some _ _).symm.trans H;rw [hy289];with_reducible exact H2_) | (have H2_:=(Option.bind_some _ _).symm.trans H;with_reducible exact H2_) | with_reducible exact H | (rw [hy289];exact H) | exact H
                       have Ny289:=am hy289;clear hy289;have H':=am H;clear H;have p285 : 0 ≤ (x59_4 : Int):=odt qq258;have q285 : x59_4 < (t282.length : Int):=odt qq258;obtain ⟨ad285,e285,hx285_0⟩:=Kd.at_int (Kd.R_reads' HO_57.out).2.2 x59_4 p285 q285
                       cases e285
                       replace p285:=eq_true p285;replace q285:=eq_true q285;obtain ⟨Ao52,co52,eo52⟩:=Kd.R_slice HO_5.out;subst eo52;have p286 : 0 ≤ ((rd t282 x59_4) : Int):=odt qq258;have q286 : (rd t282 x59_4) < (x5_4.length : Int):=odt qq258;obtain ⟨ad286,e286,hx286_0⟩:=Kd.at_int (Kd.R_reads' HO_5.out).2.2 (rd t282 x59_4) p286 q286
                       cases e286
                       replace p286:=eq_true p286;replace q286:=eq_true q286;have p287 : 0 ≤ ((rd x6_3 0) : Int):=odt qq258;have q287 : (rd x6_3 0) < (x5_4.length : Int):=odt qq258;obtain ⟨ad287,e287,hx287_0⟩:=Kd.at_int (Kd.R_reads' HO_5.out).2.2 (rd x6_3 0) p287 q287;obtain rfl : ad286 = ad287:=(by injection e287)
                       replace p287:=eq_true p287;replace q287:=eq_true q287;have p50 : 0 ≤ ((rd t282 x59_4) : Int):=odt qq258;have q50 : ((rd t282 x59_4) : Int) < ((x5_4.length : Int) : Int):=odt qq258;obtain ⟨go50,co50,eo50,gb50,gl50,cl50,HG50⟩:=Kd.R_form HO_5.out (by omega);(first | cases eo50 | (injection eo50 with ea_ en_ ec_;(first | subst ea_ | (injection ea_ with ea_;subst ea_));subst ec_;clear en_));have GB50:=am gb50;have GG50:=am HG50;clear gb50 gl50 HG50;(first | simp only [add_plain] at hx286_0 | skip);(first | simp only [add_plain] at hx287_0 | skip);obtain ⟨hx50_0,hf50_0⟩:=Kd.R_celln 0 HO_5.out ((rd t282 x59_4) : Int) p50 q50;replace p50:=eq_true p50;replace q50:=eq_true q50;have HP53:=Kd.R_putg HO_5.out ((rd t282 x59_4) : Int) (wrap64 ((rd x5_4 (rd x6_3 0)) + 1));go_wp2_with (first | ((with_reducible refine gate_store (t:=3) (p:=75) rfl ?_);refine store_event (t:=3) (p:=75) (v:=?vo_w54) (w1:=(wr.setCell ⟨go50,((rd t282 x59_4) : Int).toNat,none⟩ (.int .i64 (wrap64 ((rd x5_4 (rd x6_3 0)) + 1))))) ?hg ?ho ?hn ?hr ?_;(case ho => rfl);(case hg => rfl);(case hn => rfl);(case hr => exact qq261);intro w54 hw;have hg : wr.grownBy w54 (some go50):=(by rw [hw];exact HP53.2);have hp_ : Kd.R (Kd.int .i64) 3 w54 w.heap.size (fun k_ => some k_ ≠ (u6 : Value).ownBlock ∧ some k_ ≠ (.slice (some ad285) t282.length co41 : Value).ownBlock) (.slice (some ⟨go50,0,none⟩) x5_4.length co52) y288:=(by rw [hw,Ny288.out];exact HP53.1);clear HP53;replace HO_6:=am (Kd.Q_after (v:=(.slice (some ⟨go50,0,none⟩) x5_4.length co52)) (v1:=(.slice (some ⟨go50,0,none⟩) x5_4.length co52)) (ok:=(fun k_ => some k_ ≠ (.slice (some ad285) t282.length co41 : Value).ownBlock)) qq106 hg (.inl rfl));replace HO_57:=am (Kd.R_after (v:=(.slice (some ⟨go50,0,none⟩) x5_4.length co52)) (v1:=(.slice (some ⟨go50,0,none⟩) x5_4.length co52)) (ok:=(fun k_ => some k_ ≠ (u6 : Value).ownBlock)) qq151 hg (.inl rfl));replace BK261:=am qq283;replace HO_5:=am (hp_);replace HB:=am ((by rw [hw];exact below_set (HB.out) GB50.out : Below w.heap.size w w54));clear hg hw hp_) | ((with_reducible refine gate_builtin (b:=.append) (xs:=#[.tmp 76,.tmp 78]) rfl ?_);at_builtin;refine Kd.Q_append (Kd.int .i64) (w0:=w) w.heap.size rfl (.tmp 76) (.tmp 78) 24 3 (.int .i64 0) 8 rfl Try.underlying24 info3 rfl (by decide) (by omega) u6 x6_4 (rd t282 x59_4) [.int .i64 (rd t282 x59_4)] (fun k_ => some k_ ≠ (.slice (some ⟨go50,0,none⟩) x5_4.length co52 : Value).ownBlock ∧ some k_ ≠ (.slice (some ad285) t282.length co41 : Value).ownBlock) (fun _ => False) rfl rfl ?aP (fun _ hk => hk.elim) ?aF ?aO ?aB ?aS ?aL ?_;(case aP => exact rfl);(case aB => exact qq101);(case aF => exact (fun k_ hk => ⟨Kd.fresh' (Kd.R_lt qq251) k_ hk,Kd.fresh' (Kd.R_lt qq222) k_ hk⟩));(case aO => exact qq106);(case aS => exact qq80);(case aL => have:=LMc51.out;omega);intro v290 w55 ho hb hg hat;rw [← Ny289.out] at ho;replace HO_5:=am (Kd.R_after (ok:=(fun k_ => some k_ ≠ (.slice (some ad285) t282.length co41 : Value).ownBlock)) qq154 hg hat);replace HO_57:=am (Kd.R_after (ok:=(fun k_ => some k_ ≠ (.slice (some ⟨go50,0,none⟩) x5_4.length co52 : Value).ownBlock)) qq151 hg hat);replace BK261:=am qq284;replace HB:=am (hb);have HO291:=am (ho);clear HO_6;clear ho hb hg hat))
                       go_roundg k4
                       case measure => have:=HK1.out;have:=HK2.out;have:=HK3.out;have:=HK4.out;omega
                       case rel => exact ⟨(y288),(y289),(wrap64 (x59_4 + 1)),qq260,H',⟨qq256⟩,⟨qq154⟩,⟨by (with_reducible repeat (first | apply Kd.Q_alloc | apply Kd.Q_drewN | apply Kd.Q_drew));exact HO291.out⟩,⟨qq222⟩,⟨qq202⟩,⟨qq131⟩⟩
                      ·rw [if_neg c51] at H;exact absurd H (by simp)
                     ·rw [if_neg c49] at H;exact absurd H (by simp)
                    ·rw [if_neg c48] at H;exact absurd H (by simp)
                   ·rw [if_neg c47] at H;have c47b0 : decide ((rd x5_4 (rd t282 x59_4)) < 0) = false:=decide_eq_false c47;clear c47;have H':=am H;clear H;have p285 : 0 ≤ (x59_4 : Int):=odt qq258;have q285 : x59_4 < (t282.length : Int):=odt qq258;obtain ⟨ad285,e285,hx285_0⟩:=Kd.at_int (Kd.R_reads' HO_57.out).2.2 x59_4 p285 q285
                    cases e285
                    replace p285:=eq_true p285;replace q285:=eq_true q285;obtain ⟨Ao56,co56,eo56⟩:=Kd.R_slice HO_5.out;subst eo56;have p286 : 0 ≤ ((rd t282 x59_4) : Int):=odt qq258;have q286 : (rd t282 x59_4) < (x5_4.length : Int):=odt qq258;obtain ⟨ad286,e286,hx286_0⟩:=Kd.at_int (Kd.R_reads' HO_5.out).2.2 (rd t282 x59_4) p286 q286
                    cases e286
                    replace p286:=eq_true p286;replace q286:=eq_true q286;go_wp2
                    go_roundg k4
                    case measure => have:=HK1.out;have:=HK2.out;have:=HK3.out;have:=HK4.out;omega
                    case rel => exact ⟨(x5_4),(x6_4),(wrap64 (x59_4 + 1)),qq260,H',⟨qq256⟩,⟨qq251⟩,⟨qq177⟩,⟨qq222⟩,⟨qq202⟩,⟨qq131⟩⟩
                  ·rw [if_neg c46] at H;exact absurd H (by simp)
                 ·rw [if_neg c45] at H;exact absurd H (by simp)
                ·rw [if_neg c44] at H;exact absurd H (by simp)
               ·rw [if_neg c43] at H;exact absurd H (by simp)
              ·rw [if_neg c42] at H;have c42b0 : decide (x59_4 < (t282.length : Int)) = false:=decide_eq_false c42;clear c42;have H':=am H;clear H;go_wp2
               go_roundg k4
               case measure => have:=HK1.out;have:=HK2.out;have:=HK3.out;have:=HK4.out;omega
               case rel => exact ⟨(x5_4),(x6_4),H',⟨qq256⟩,⟨by (with_reducible repeat (first | apply kA | apply kN | apply kD));exact Kd.R_mono HO_5.out (fun _ hk => hk.1)⟩,⟨by (with_reducible repeat (first | apply Kd.Q_alloc | apply Kd.Q_drewN | apply Kd.Q_drew));exact Kd.Q_mono HO_6.out (fun _ hk => hk.1)⟩,⟨qq202⟩,⟨qq131⟩⟩
           ·rw [if_neg c35] at H;exact absurd H (by simp)
          ·rw [if_neg c34] at H;exact absurd H (by simp)
         ·rw [if_neg c33] at H;have c33b0 : decide (0 < (x6_3.length : Int)) = false:=decide_eq_false c33;have c33b1 : decide (0 < x6_3.length) = false:=decide_eq_false (by omega);clear c33;obtain rfl:=Option.some.inj H;obtain ⟨Ao57,co57,eo57,_⟩:=Kd.Q_slice HO_6.out;subst eo57;go_wp2
          go_ret
          exact ⟨_,qq216,qq157,qq131⟩

/-! ### impl_within: function 30 -/
def impl_within.l0 : Nat → Int → List Int → List Int → Int → Int → Option (List Int)
 | 0,_,_,_,_,_ => none
 | k + 1,x1,x5,x9,x10,x11 => if x11 < x10 then (if 0 ≤ x11 then (if x11 < (x9.length : Int) then (if (rd x9 x11) ≥ 0 then (if (rd x9 x11) ≤ x1 then (if x5.length < 17592186044416 then (impl_within.l0 k x1 (x5 ++ [x11]) x9 x10 (wrap64 (x11 + 1))) else (none)) else (impl_within.l0 k x1 x5 x9 x10 (wrap64 (x11 + 1)))) else (impl_within.l0 k x1 x5 x9 x10 (wrap64 (x11 + 1)))) else (none)) else (none)) else (some x5)
def impl_within.f (k : Nat) (l0 : List Int) (a1 : Int) : Option (List Int) := impl_within.l0 k a1 (([] : List Int)) l0 (l0.length : Int) 0
set_option maxHeartbeats 8000000 in
set_option maxRecDepth 100000 in
theorem impl_within.calls (k : Nat) (A0 : Option Addr) (c0 : Nat) (l0 : List Int) (a1 : Int) (r : List Int) (w : World) (hr0 : Kd.C (Kd.int .i64) w A0 l0.length l0) (hc0 : l0.length ≤ c0) (h : impl_within.f k l0 a1 = some r) :
  Calls Try.prog 30 #[.slice A0 l0.length c0,.int .i64 a1] w fun e w' => ∃ v0_ : Value,e = .returned (v0_) ∧ Kd.R (Kd.int .i64) 3 w' w.heap.size (fun _ => True) v0_ r ∧ Below w.heap.size w w':=by
 have HR0:=am hr0;have HC0:=am hc0;clear hr0 hc0;have HB:=am qq354;have H : (impl_within.l0 k a1 (([] : List Int)) l0 (l0.length : Int) 0) = some r:=h;clear h;obtain ⟨y292,hy292⟩ : ∃ y_ : List Int,y_ = (([] : List Int)):=⟨_,rfl⟩
 replace H : (impl_within.l0 k a1 y292 l0 (l0.length : Int) 0) = some r:=by first | (rw [hy292];with_reducible exact H) | (have H2_:=(Option.bind_some _ _).symm.trans H;rw [hy292];with_reducible exact H2_) | (have H2_:=(Option.bind_some _ _).symm.trans H;with_reducible exact H2_) | with_reducible exact H | (rw [hy292];exact H) | exact H
 have Ny292:=am hy292;clear hy292;have H':=am H;clear H
 go_enter Try.func30,Try.ntmps30
 go_wp2_with (first | ((with_reducible refine gate_dst (N:=8) rfl ?_);refine Kd.R_lit (Kd.int .i64) _ 3 ?hg (N:=8) ?hd (xs:=([] : List Int)) (inner:=[]) (ok:=fun _ => True) (okp:=fun _ => True) ?hr ?hp (fun _ hk => hk) trivial (Below.refl _ _) (Nat.le_refl _) (by simp) ?_;(case hd => rfl);(case hg => rfl);(case hr => exact qq261);(case hp => exact qq274);intro v293 w3 ho4 hb hg_ hnew_;clear hg_ hnew_;(first | rw [← Ny292.out] at ho4 | (simp only [Int.reduceToNat] at ho4;rw [← Ny292.out] at ho4));have HO294:=am (Kd.R_lower ho4 (below_size qq176));replace HB:=am qq358;clear hb ho4))
 go_loopg [5,11] k (fun kq v5 v11 w' => ∃ (x5_1 : List Int) (x11_1 : Int),v11 = .int .i64 x11_1 ∧ Aside0 (impl_within.l0 kq a1 x5_1 l0 (l0.length : Int) x11_1 = some r) ∧ Aside0 (kq ≤ k) ∧ Aside0 (Kd.R (Kd.int .i64) 3 w' w.heap.size (fun _ => True) v5 x5_1) ∧ Aside0 (Below w.heap.size w w'))
 case atStart => exact ⟨(y292),(0),qq260,H',⟨Nat.le_refl _⟩,⟨by (with_reducible repeat (first | apply kA | apply kN | apply kD));exact HO294.out⟩,⟨qq176⟩⟩
 case round =>
  clear H'
  try clear p2
  try clear c3
  obtain ⟨x5_1,x11_1,rfl,HA,HK1,HO_5,HB⟩:=hrel
  cases gk with
  | zero => exact absurd HA.out (by simp [impl_within.l0])
  | succ k1 =>
   have H:=HA.out;clear HA;simp only [impl_within.l0] at H
   by_cases c5 : x11_1 < (l0.length : Int)
   ·rw [if_pos c5] at H;have c5b0 : decide (x11_1 < (l0.length : Int)) = true:=decide_eq_true c5;clear c5
    by_cases c6 : 0 ≤ x11_1
    ·rw [if_pos c6] at H;have c6b0 : decide (0 ≤ x11_1) = true:=decide_eq_true c6;clear c6
     by_cases c7 : x11_1 < (l0.length : Int)
     ·rw [if_pos c7] at H;have c7b0 : decide (x11_1 < (l0.length : Int)) = true:=decide_eq_true c7;clear c7
      by_cases c8 : (rd l0 x11_1) ≥ 0
      ·rw [if_pos c8] at H;have c8b0 : decide (0 ≤ (rd l0 x11_1)) = true:=decide_eq_true c8;clear c8
       by_cases c9 : (rd l0 x11_1) ≤ a1
       ·rw [if_pos c9] at H;have c9b0 : decide ((rd l0 x11_1) ≤ a1) = true:=decide_eq_true c9;clear c9
        by_cases c10 : x5_1.length < 17592186044416
        ·rw [if_pos c10] at H;have LMc10:=am c10;clear c10;obtain ⟨y296,hy296⟩ : ∃ y_ : List Int,y_ = (x5_1 ++ [x11_1]):=⟨_,rfl⟩
         replace H : (impl_within.l0 k1 a1 y296 l0 (l0.length : Int) (wrap64 (x11_1 + 1))) = some r:=by first | (rw [hy296];with_reducible exact H) | (have H2_:=(Option.bind_some _ _).symm.trans H;rw [hy296];with_reducible exact H2_) | (have H2_:=(Option.bind_some _ _).symm.trans H;with_reducible exact H2_) | with_reducible exact H | (rw [hy296];exact H) | exact H
         have Ny296:=am hy296;clear hy296;have H':=am H;clear H;have p295 : 0 ≤ (x11_1 : Int):=odt qq258;have q295 : x11_1 < (l0.length : Int):=odt qq258;obtain ⟨ad295,e295,hx295_0⟩:=Kd.at_int HR0.out x11_1 p295 q295
         cases e295
         replace hx295_0:=(ct HB.out hx295_0 :)
         replace p295:=eq_true p295;replace q295:=eq_true q295;go_wp2_with (first | ((with_reducible refine gate_builtin (b:=.append) (xs:=#[.tmp 23,.tmp 25]) rfl ?_);at_builtin;refine Kd.R_append (Kd.int .i64) (w0:=w) w.heap.size rfl (.tmp 23) (.tmp 25) 24 3 (.int .i64 0) 8 rfl Try.underlying24 info3 rfl (by decide) (by omega) u5 x5_1 x11_1 [.int .i64 x11_1] (fun _ => True) (fun _ => False) rfl rfl ?aP (fun _ hk => hk.elim) ?aF ?aO ?aB ?aS ?aL ?_;(case aP => exact rfl);(case aB => exact qq155);(case aF => exact qq272);(case aO => exact qq220);(case aS => exact qq146);(case aL => have:=LMc10.out;omega);intro v297 w11 ho hb hg hat;rw [← Ny296.out] at ho;replace HB:=am (hb);have HO298:=am (ho);clear HO_5;clear ho hb hg hat))
         go_roundg k1
         case measure => have:=HK1.out;omega
         case rel => exact ⟨(y296),(wrap64 (x11_1 + 1)),qq260,H',⟨qq275⟩,⟨by (with_reducible repeat (first | apply kA | apply kN | apply kD));exact HO298.out⟩,⟨qq176⟩⟩
        ·rw [if_neg c10] at H;exact absurd H (by simp)
       ·rw [if_neg c9] at H;have c9b0 : decide ((rd l0 x11_1) ≤ a1) = false:=decide_eq_false c9;clear c9;have H':=am H;clear H;have p295 : 0 ≤ (x11_1 : Int):=odt qq258;have q295 : x11_1 < (l0.length : Int):=odt qq258;obtain ⟨ad295,e295,hx295_0⟩:=Kd.at_int HR0.out x11_1 p295 q295
        cases e295
        replace hx295_0:=(ct HB.out hx295_0 :)
        replace p295:=eq_true p295;replace q295:=eq_true q295;go_wp2
        go_roundg k1
        case measure => have:=HK1.out;omega
        case rel => exact ⟨(x5_1),(wrap64 (x11_1 + 1)),qq260,H',⟨qq275⟩,⟨qq251⟩,⟨qq176⟩⟩
      ·rw [if_neg c8] at H;have c8b0 : decide (0 ≤ (rd l0 x11_1)) = false:=decide_eq_false c8;clear c8;have H':=am H;clear H;have p295 : 0 ≤ (x11_1 : Int):=odt qq258;have q295 : x11_1 < (l0.length : Int):=odt qq258;obtain ⟨ad295,e295,hx295_0⟩:=Kd.at_int HR0.out x11_1 p295 q295
       cases e295
       replace hx295_0:=(ct HB.out hx295_0 :)
       replace p295:=eq_true p295;replace q295:=eq_true q295;go_wp2
       go_roundg k1
       case measure => have:=HK1.out;omega
       case rel => exact ⟨(x5_1),(wrap64 (x11_1 + 1)),qq260,H',⟨qq275⟩,⟨qq251⟩,⟨qq176⟩⟩
     ·rw [if_neg c7] at H;exact absurd H (by simp)
    ·rw [if_neg c6] at H;exact absurd H (by simp)
   ·rw [if_neg c5] at H;have c5b0 : decide (x11_1 < (l0.length : Int)) = false:=decide_eq_false c5;clear c5;obtain rfl:=Option.some.inj H;go_wp2
    go_ret
    exact ⟨_,qq216,qq251,qq176⟩

end Go.Proofs.Ytimpjccgnkbgmaa.PFnSearch
