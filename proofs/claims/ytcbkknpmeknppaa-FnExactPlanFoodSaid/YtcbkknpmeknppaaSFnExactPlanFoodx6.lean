/- Contracts of functions that the law FnExactPlanFood reaches, for its row: lines that the kit's printer wrote for this claim, set shorter by a program of this session (own.py), and what fell in Lean proved anew. Lean checks them. -/
import Derived.Test.YtcbkknpmeknppaaSFnExactPlanFoodx0
import Derived.Test.YtcbkknpmeknppaaSFnExactPlanFoodx4
import Derived.Test.YtcbkknpmeknppaaSFnExactPlanFoodx5
namespace Go.Proofs.Ytcbkknpmeknppaa.PFnExactPlanFood
open Go.RowKit Go.Proofs.YtcbkknpmeknppaaW.PrintWords Go.Proofs.YtcbkknpmeknppaaW.PrintLast Go.Proofs.YtcbkknpmeknppaaW.PrintMore
attribute [local go_sem] max2_int min2_int max_two min_two max_three min_three max_four min_four   -- for this text's walks alone
set_option linter.unusedVariables false
set_option linter.unusedSimpArgs false

/-! ### impl_distances: function 90 -/
mutual
def impl_distances.l0 : Nat → List Int → List Int → Int → Int → Int → Int → List Int → Option (List Int)
 | 0,_,_,_,_,_,_,_ => none
 | k + 1,x1,x5,x15,x16,x191000,x191001,x191002 => if x16 < x15 then (if x5.length < 17592186044416 then (impl_distances.l0 k x1 (x5 ++ [(-1)]) x15 (wrap64 (x16 + 1)) x191000 x191001 x191002) else (none)) else (impl_distances.l1 k x5 (([] : List Int)) x1 (x1.length : Int) 0 x191000 x191001 x191002)
def impl_distances.l1 : Nat → List Int → List Int → List Int → Int → Int → Int → Int → List Int → Option (List Int)
 | 0,_,_,_,_,_,_,_,_ => none
 | k + 1,x5,x6,x23,x24,x25,x191000,x191001,x191002 => if x25 < x24 then (if 0 ≤ x25 then (if x25 < (x23.length : Int) then ((impl_IsOpen.f k x191000 x191001 x191002 (rd x23 x25)).bind fun t201 => (if t201 = true then (if 0 ≤ (rd x23 x25) then (if (rd x23 x25) < (x5.length : Int) then (if (rd x5 (rd x23 x25)) < 0 then (if x6.length < 17592186044416 then (impl_distances.l1 k (x5.set ((rd x23 x25) : Int).toNat 0) (x6 ++ [rd x23 x25]) x23 x24 (wrap64 (x25 + 1)) x191000 x191001 x191002) else (none)) else (impl_distances.l1 k x5 x6 x23 x24 (wrap64 (x25 + 1)) x191000 x191001 x191002)) else (none)) else (none)) else (impl_distances.l1 k x5 x6 x23 x24 (wrap64 (x25 + 1)) x191000 x191001 x191002))) else (none)) else (none)) else (impl_distances.l2 k x5 x6 x191000 x191001 x191002)
def impl_distances.l2 : Nat → List Int → List Int → Int → Int → List Int → Option (List Int)
 | 0,_,_,_,_,_ => none
 | k + 1,x5,x6,x191000,x191001,x191002 => if (x6.length : Int) > 0 then (if 0 < (x6.length : Int) then (if 1 ≤ (x6.length : Int) then ((impl_Near.f k x191000 x191001 x191002 (rd x6 0)).bind fun t211 => (impl_distances.l3 k x5 (x6.drop (1 : Int).toNat) (rd x6 0) t211 (t211.length : Int) 0 x191000 x191001 x191002)) else (none)) else (none)) else (some x5)
def impl_distances.l3 : Nat → List Int → List Int → Int → List Int → Int → Int → Int → Int → List Int → Option (List Int)
 | 0,_,_,_,_,_,_,_,_,_ => none
 | k + 1,x5,x6,x9,x57,x58,x59,x191000,x191001,x191002 => if x59 < x58 then (if 0 ≤ x59 then (if x59 < (x57.length : Int) then (if 0 ≤ (rd x57 x59) then (if (rd x57 x59) < (x5.length : Int) then (if (rd x5 (rd x57 x59)) < 0 then (if 0 ≤ x9 then (if x9 < (x5.length : Int) then (if x6.length < 17592186044416 then (impl_distances.l3 k (x5.set ((rd x57 x59) : Int).toNat (wrap64 ((rd x5 x9) + 1))) (x6 ++ [rd x57 x59]) x9 x57 x58 (wrap64 (x59 + 1)) x191000 x191001 x191002) else (none)) else (none)) else (none)) else (impl_distances.l3 k x5 x6 x9 x57 x58 (wrap64 (x59 + 1)) x191000 x191001 x191002)) else (none)) else (none)) else (none)) else (none)) else (impl_distances.l2 k x5 x6 x191000 x191001 x191002)
end
def impl_distances.f (k : Nat) (a0_0 : Int) (a0_1 : Int) (l0_2 : List Int) (l1 : List Int) : Option (List Int) := impl_distances.l0 k l1 (([] : List Int)) (l0_2.length : Int) 0 a0_0 a0_1 l0_2
set_option maxHeartbeats 8000000 in
set_option maxRecDepth 100000 in
theorem impl_distances.calls (k : Nat) (a0_0 : Int) (a0_1 : Int) (A0_2 : Option Addr) (c0_2 : Nat) (l0_2 : List Int) (A1 : Option Addr) (c1 : Nat) (l1 : List Int) (r : List Int) (w : World) (hr0_2 : Kd.C (Kd.int .i64) w A0_2 l0_2.length l0_2) (hc0_2 : l0_2.length ≤ c0_2) (hr1 : Kd.C (Kd.int .i64) w A1 l1.length l1) (hc1 : l1.length ≤ c1) (h : impl_distances.f k a0_0 a0_1 l0_2 l1 = some r) :
  Calls Try.prog 90 #[.agg #[.int .i64 a0_0,.int .i64 a0_1,.slice A0_2 l0_2.length c0_2],.slice A1 l1.length c1] w fun e w' => ∃ v0_ : Value,e = .returned (v0_) ∧ Kd.R (Kd.int .i64) 3 w' w.heap.size (fun _ => True) v0_ r ∧ Below w.heap.size w w':=by
 have hu51:=Try.underlying51;have HR0_2:=am hr0_2;have HC0_2:=am hc0_2;clear hr0_2 hc0_2;have HR1:=am hr1;have HC1:=am hc1;clear hr1 hc1;have HB:=am qq465;have H : (impl_distances.l0 k l1 (([] : List Int)) (l0_2.length : Int) 0 a0_0 a0_1 l0_2) = some r:=h;clear h;obtain ⟨y191,hy191⟩ : ∃ y_ : List Int,y_ = (([] : List Int)):=⟨_,rfl⟩
 replace H : (impl_distances.l0 k l1 y191 (l0_2.length : Int) 0 a0_0 a0_1 l0_2) = some r:=by first | (rw [hy191];with_reducible exact H) | (have H2_:=(Option.bind_some _ _).symm.trans H;rw [hy191];with_reducible exact H2_) | (have H2_:=(Option.bind_some _ _).symm.trans H;with_reducible exact H2_) | with_reducible exact H | (rw [hy191];exact H) | exact H
 have Ny191:=am hy191;clear hy191;have H':=am H;clear H
 go_enter Try.func90,Try.ntmps90
 go_wp2_with (first | ((with_reducible refine gate_dst (N:=2) rfl ?_);refine box_event ?hg (N:=2) ?hd (cs:=#[.int .i64 a0_0,.int .i64 a0_1,.slice A0_2 l0_2.length c0_2]) (t:=51) ?hr ?_;(case hd => rfl);(case hg => rfl);(case hr => exact qq312);intro gb190 hg w3 hbox hb;have BK190:=am (hbox);have GW190:=am ((qq144 : w.heap.size ≤ gb190));have GE190:=am ((qq144 : w.heap.size ≤ gb190));replace HB:=am qq488;clear hb hbox hg) | ((with_reducible refine gate_dst (N:=12) rfl ?_);refine Kd.R_lit (Kd.int .i64) _ 3 ?hg (N:=12) ?hd (xs:=([] : List Int)) (inner:=[]) (ok:=fun _ => True) (okp:=fun _ => True) ?hr ?hp (fun _ hk => hk) trivial (Below.refl _ _) (Nat.le_refl _) (by simp) ?_;(case hd => rfl);(case hg => rfl);(case hr => exact qq312);(case hp => exact qq330);intro v192 w4 ho5 hb hg_ hnew_;clear hg_ hnew_;(first | rw [← Ny191.out] at ho5 | (simp only [Int.reduceToNat] at ho5;rw [← Ny191.out] at ho5));have HO193:=am (Kd.R_lower ho5 (below_size qq177));replace BK190:=am qq370;replace HB:=am qq492;clear hb ho5;obtain ⟨hcz6_0,hcz6_1,hcz6_2,hfz6_0,hfz6_1,hfz6_2⟩:=bcl3 BK190.out))
 go_loopg [5,16] k (fun kq v5 v16 w' => ∃ (x5_1 : List Int) (x16_1 : Int),v16 = .int .i64 x16_1 ∧ Aside0 (impl_distances.l0 kq l1 x5_1 (l0_2.length : Int) x16_1 a0_0 a0_1 l0_2 = some r) ∧ Aside0 (kq ≤ k) ∧ Aside0 (Kd.R (Kd.int .i64) 3 w' w.heap.size (fun _ => True) v5 x5_1) ∧ Aside0 (w'.heap[gb190]? = some (.cells #[.int .i64 a0_0,.int .i64 a0_1,(.slice A0_2 l0_2.length c0_2)] 51 (0,0))) ∧ Aside0 (Below w.heap.size w w'))
 case atStart => exact ⟨(y191),(0),qq311,H',⟨Nat.le_refl _⟩,⟨by (with_reducible repeat (first | apply kA | apply kN | apply kD));exact HO193.out⟩,⟨qq254⟩,⟨qq177⟩⟩
 case round =>
  clear H'
  try clear c1
  try clear p2
  try clear hcz6_0
  try clear hcz6_1
  try clear hcz6_2
  try clear hfz6_0
  try clear hfz6_1
  try clear hfz6_2
  obtain ⟨x5_1,x16_1,rfl,HA,HK1,HO_5,BK190,HB⟩:=hrel
  cases gk with
  | zero => exact absurd HA.out (by simp [impl_distances.l0])
  | succ k1 =>
   have H:=HA.out;clear HA;simp only [impl_distances.l0] at H
   by_cases c7 : x16_1 < (l0_2.length : Int)
   ·rw [if_pos c7] at H;have c7b0 : decide (x16_1 < (l0_2.length : Int)) = true:=decide_eq_true c7;clear c7
    by_cases c8 : x5_1.length < 17592186044416
    ·rw [if_pos c8] at H;have LMc8:=am c8;clear c8;obtain ⟨y194,hy194⟩ : ∃ y_ : List Int,y_ = (x5_1 ++ [(-1)]):=⟨_,rfl⟩
     replace H : (impl_distances.l0 k1 l1 y194 (l0_2.length : Int) (wrap64 (x16_1 + 1)) a0_0 a0_1 l0_2) = some r:=by first | (rw [hy194];with_reducible exact H) | (have H2_:=(Option.bind_some _ _).symm.trans H;rw [hy194];with_reducible exact H2_) | (have H2_:=(Option.bind_some _ _).symm.trans H;with_reducible exact H2_) | with_reducible exact H | (rw [hy194];exact H) | exact H
     have Ny194:=am hy194;clear hy194;have H':=am H;clear H;go_wp2_with (first | ((with_reducible refine gate_builtin (b:=.append) (xs:=#[.tmp 18,.tmp 19]) rfl ?_);at_builtin;refine Kd.R_append (Kd.int .i64) (w0:=w) w.heap.size rfl (.tmp 18) (.tmp 19) 49 3 (.int .i64 0) 8 rfl Try.underlying49 info3 rfl (by decide) (by omega) u5 x5_1 (-1) [.int .i64 (-1)] (fun _ => True) (fun _ => False) rfl rfl ?aP (fun _ hk => hk.elim) ?aF ?aO ?aB ?aS ?aL ?_;(case aP => exact rfl);(case aB => exact qq140);(case aF => exact qq328);(case aO => exact qq269);(case aS => exact qq111);(case aL => have:=LMc8.out;omega);intro v195 w9 ho hb hg hat;rw [← Ny194.out] at ho;replace BK190:=am qq339;replace HB:=am (hb);have HO196:=am (ho);clear HO_5;clear ho hb hg hat))
     go_roundg k1
     case measure => have:=HK1.out;omega
     case rel => exact ⟨(y194),(wrap64 (x16_1 + 1)),qq311,H',⟨qq331⟩,⟨by (with_reducible repeat (first | apply kA | apply kN | apply kD));exact HO196.out⟩,⟨qq254⟩,⟨qq177⟩⟩
    ·rw [if_neg c8] at H;exact absurd H (by simp)
   ·rw [if_neg c7] at H;have c7b0 : decide (x16_1 < (l0_2.length : Int)) = false:=decide_eq_false c7;clear c7;obtain ⟨y197,hy197⟩ : ∃ y_ : List Int,y_ = (([] : List Int)):=⟨_,rfl⟩
    replace H : (impl_distances.l1 k1 x5_1 y197 l1 (l1.length : Int) 0 a0_0 a0_1 l0_2) = some r:=by first | (rw [hy197];with_reducible exact H) | (have H2_:=(Option.bind_some _ _).symm.trans H;rw [hy197];with_reducible exact H2_) | (have H2_:=(Option.bind_some _ _).symm.trans H;with_reducible exact H2_) | with_reducible exact H | (rw [hy197];exact H) | exact H
    have Ny197:=am hy197;clear hy197;have H':=am H;clear H;go_wp2_with (first | ((with_reducible refine gate_dst (N:=22) rfl ?_);refine Kd.R_lit (Kd.int .i64) _ 3 ?hg (N:=22) ?hd (xs:=([] : List Int)) (inner:=[]) (ok:=fun _ => True) (okp:=fun _ => True) ?hr ?hp (fun _ hk => hk) trivial (Below.refl _ _) (Nat.le_refl _) (by simp) ?_;(case hd => rfl);(case hg => rfl);(case hr => exact qq312);(case hp => exact qq330);intro v198 w10 ho11 hb hg_ hnew_;clear hg_ hnew_;(first | rw [← Ny197.out] at ho11 | (simp only [Int.reduceToNat] at ho11;rw [← Ny197.out] at ho11));have HO199:=am (Kd.R_lower (Kd.R_new' ho11 (Kd.R_lt qq303)) (below_size qq177));replace HO_5:=am (Kd.R_elder' qq303 (Kd.R_base ho11) hb);replace BK190:=am qq370;replace HB:=am qq492;clear hb ho11))
    go_loopg [6,25] k1 (fun kq v6 v25 w' => ∃ (x5_2 : List Int) (x6_2 : List Int) (x25_2 : Int),v25 = .int .i64 x25_2 ∧ Aside0 (impl_distances.l1 kq x5_2 x6_2 l1 (l1.length : Int) x25_2 a0_0 a0_1 l0_2 = some r) ∧ Aside0 (kq ≤ k1) ∧ Aside0 (Kd.R (Kd.int .i64) 3 w' w.heap.size (fun k_ => some k_ ≠ (v6 : Value).ownBlock) u5 x5_2) ∧ Aside0 (Kd.Q (Kd.int .i64) 3 w' w.heap.size (fun k_ => some k_ ≠ (u5 : Value).ownBlock) v6 x6_2) ∧ Aside0 (w'.heap[gb190]? = some (.cells #[.int .i64 a0_0,.int .i64 a0_1,(.slice A0_2 l0_2.length c0_2)] 51 (0,0))) ∧ Aside0 (Below w.heap.size w w'))
    case atStart => exact ⟨(x5_1),(y197),(0),qq311,H',⟨Nat.le_refl _⟩,⟨qq206⟩,⟨Kd.Q_of_R (by (with_reducible repeat (first | apply kA | apply kN | apply kD));exact Kd.R_mono HO199.out (fun _ hk => hk.2))⟩,⟨qq254⟩,⟨qq177⟩⟩
    case round =>
     clear H'
     try clear c1
     try clear p2
     try clear p6
     try clear c7
     try clear c7b0
     try clear c8
     try clear c9
     try clear hcz6_0
     try clear hcz6_1
     try clear hcz6_2
     try clear hfz6_0
     try clear hfz6_1
     try clear hfz6_2
     try clear p2
     obtain ⟨x5_2,x6_2,x25_2,rfl,HA,HK2,HO_5,HO_6,BK190,HB⟩:=hrel
     cases gk with
     | zero => exact absurd HA.out (by simp [impl_distances.l1])
     | succ k2 =>
      have H:=HA.out;clear HA;simp only [impl_distances.l1] at H
      by_cases c12 : x25_2 < (l1.length : Int)
      ·rw [if_pos c12] at H;have c12b0 : decide (x25_2 < (l1.length : Int)) = true:=decide_eq_true c12;clear c12
       by_cases c13 : 0 ≤ x25_2
       ·rw [if_pos c13] at H;have c13b0 : decide (0 ≤ x25_2) = true:=decide_eq_true c13;clear c13
        by_cases c14 : x25_2 < (l1.length : Int)
        ·rw [if_pos c14] at H;have c14b0 : decide (x25_2 < (l1.length : Int)) = true:=decide_eq_true c14;clear c14;replace H:=bS.mp H;obtain ⟨t201,A150,H⟩:=H;(try dsimp only at H);have A15:=am A150;clear A150
         by_cases c16 : t201 = true
         ·subst c16;rw [if_pos rfl] at H
          by_cases c17 : 0 ≤ (rd l1 x25_2)
          ·rw [if_pos c17] at H;have c17b0 : decide (0 ≤ (rd l1 x25_2)) = true:=decide_eq_true c17;clear c17
           by_cases c18 : (rd l1 x25_2) < (x5_2.length : Int)
           ·rw [if_pos c18] at H;have c18b0 : decide ((rd l1 x25_2) < (x5_2.length : Int)) = true:=decide_eq_true c18;clear c18
            by_cases c19 : (rd x5_2 (rd l1 x25_2)) < 0
            ·rw [if_pos c19] at H;have c19b0 : decide ((rd x5_2 (rd l1 x25_2)) < 0) = true:=decide_eq_true c19;clear c19;obtain ⟨y203,hy203⟩ : ∃ y_ : List Int,y_ = (x5_2.set ((rd l1 x25_2) : Int).toNat 0):=⟨_,rfl⟩
             replace H : (if x6_2.length < 17592186044416 then (impl_distances.l1 k2 y203 (x6_2 ++ [rd l1 x25_2]) l1 (l1.length : Int) (wrap64 (x25_2 + 1)) a0_0 a0_1 l0_2) else (none)) = some r:=by first | (rw [hy203];with_reducible exact H) | (have H2_:=(Option.bind_some _ _).symm.trans H;rw [hy203];with_reducible exact H2_) | (have H2_:=(Option.bind_some _ _).symm.trans H;with_reducible exact H2_) | with_reducible exact H | (rw [hy203];exact H) | exact H
             have Ny203:=am hy203;clear hy203
             by_cases c21 : x6_2.length < 17592186044416
             ·rw [if_pos c21] at H;have LMc21:=am c21;clear c21;obtain ⟨y204,hy204⟩ : ∃ y_ : List Int,y_ = (x6_2 ++ [rd l1 x25_2]):=⟨_,rfl⟩
              replace H : (impl_distances.l1 k2 y203 y204 l1 (l1.length : Int) (wrap64 (x25_2 + 1)) a0_0 a0_1 l0_2) = some r:=by first | (rw [hy204];with_reducible exact H) | (have H2_:=(Option.bind_some _ _).symm.trans H;rw [hy204];with_reducible exact H2_) | (have H2_:=(Option.bind_some _ _).symm.trans H;with_reducible exact H2_) | with_reducible exact H | (rw [hy204];exact H) | exact H
              have Ny204:=am hy204;clear hy204;have H':=am H;clear H;have p200 : 0 ≤ (x25_2 : Int):=odt qq309;have q200 : x25_2 < (l1.length : Int):=odt qq309;obtain ⟨ad200,e200,hx200_0⟩:=Kd.at_int HR1.out x25_2 p200 q200
              cases e200
              replace hx200_0:=(ct HB.out hx200_0 :)
              replace p200:=eq_true p200;replace q200:=eq_true q200;obtain ⟨hcz22_0,hcz22_1,hcz22_2,hfz22_0,hfz22_1,hfz22_2⟩:=bcl3 BK190.out;go_wp2_with (first | ((with_reducible refine gate_callee (f:=49) rfl ?_);refine goesL_ (some 31) rfl rfl Try.func49 (by kernel_rfl) rfl #[.agg #[.int .i64 a0_0,.int .i64 a0_1,.slice A0_2 l0_2.length c0_2],.int .i64 (rd l1 x25_2)] rfl qq187 ?_;(with_reducible refine (impl_IsOpen.calls k2 a0_0 a0_1 _ _ l0_2 (rd l1 x25_2) true _ ?side1 ?side2 A15.out).mono ?_);(case side1 => exact qq117);(case side2 => exact qq334);rintro e w23 ⟨rfl,hb⟩;refine ⟨_,rfl,?_⟩;replace HO_5:=am qq491;replace HO_6:=am (Kd.Q_below qq210 hb);replace BK190:=am qq370;replace HB:=am qq492;(try clear hb);(try clear hb2);(try clear hk);(try clear hi);obtain ⟨Ao24,co24,eo24⟩:=Kd.R_slice HO_5.out;subst eo24;have p202 : 0 ≤ ((rd l1 x25_2) : Int):=odt qq309;have q202 : (rd l1 x25_2) < (x5_2.length : Int):=odt qq309;obtain ⟨ad202,e202,hx202_0⟩:=Kd.at_int (Kd.R_reads' HO_5.out).2.2 (rd l1 x25_2) p202 q202;cases e202;replace p202:=eq_true p202;replace q202:=eq_true q202;have p20 : 0 ≤ ((rd l1 x25_2) : Int):=odt qq309;have q20 : ((rd l1 x25_2) : Int) < ((x5_2.length : Int) : Int):=odt qq309;obtain ⟨go20,co20,eo20,gb20,gl20,cl20,HG20⟩:=Kd.R_form HO_5.out (by omega);(first | cases eo20 | (injection eo20 with ea_ en_ ec_;(first | subst ea_ | (injection ea_ with ea_;subst ea_));subst ec_;clear en_));have GB20:=am gb20;have GG20:=am HG20;clear gb20 gl20 HG20;(first | simp only [add_plain] at hx202_0 | skip);obtain ⟨hx20_0,hf20_0⟩:=Kd.R_celln 0 HO_5.out ((rd l1 x25_2) : Int) p20 q20;replace p20:=eq_true p20;replace q20:=eq_true q20;obtain ⟨hy25_,hz25_⟩:=Kd.R_celln 0 HO_5.out ((rd l1 x25_2) : Int) (odt qq309) (odt qq309);have HP25:=Kd.R_putg HO_5.out ((rd l1 x25_2) : Int) 0) | ((with_reducible refine gate_store (t:=3) (p:=41) rfl ?_);refine store_event (t:=3) (p:=41) (v:=?vo_w26) (w1:=(w23.setCell ⟨go20,((rd l1 x25_2) : Int).toNat,none⟩ (.int .i64 0))) ?hg ?ho ?hn ?hr ?_;(case ho => rfl);(case hg => rfl);(case hn => rfl);(case hr => exact qq312);intro w26 hw;have hg : w23.grownBy w26 (some go20):=(by rw [hw];exact HP25.2);have hp_ : Kd.R (Kd.int .i64) 3 w26 w.heap.size (fun k_ => some k_ ≠ (u6 : Value).ownBlock) (.slice (some ⟨go20,0,none⟩) x5_2.length co24) y203:=(by rw [hw,Ny203.out];exact HP25.1);clear HP25;replace HO_6:=am (Kd.Q_after (v:=(.slice (some ⟨go20,0,none⟩) x5_2.length co24)) (v1:=(.slice (some ⟨go20,0,none⟩) x5_2.length co24)) (ok:=(fun _ => True)) (by (with_reducible repeat (first | apply Kd.Q_alloc | apply Kd.Q_drewN | apply Kd.Q_drew));exact Kd.Q_mono HO_6.out (fun _ hk => ⟨trivial,hk⟩)) hg (.inl rfl));replace BK190:=am qq339;replace HO_5:=am (hp_);replace HB:=am ((by rw [hw];exact below_set (HB.out) GB20.out : Below w.heap.size w w26));clear hg hw hp_) | ((with_reducible refine gate_builtin (b:=.append) (xs:=#[.tmp 42,.tmp 44]) rfl ?_);at_builtin;refine Kd.Q_append (Kd.int .i64) (w0:=w) w.heap.size rfl (.tmp 42) (.tmp 44) 49 3 (.int .i64 0) 8 rfl Try.underlying49 info3 rfl (by decide) (by omega) u6 x6_2 (rd l1 x25_2) [.int .i64 (rd l1 x25_2)] (fun k_ => some k_ ≠ (.slice (some ⟨go20,0,none⟩) x5_2.length co24 : Value).ownBlock) (fun _ => False) rfl rfl ?aP (fun _ hk => hk.elim) ?aF ?aO ?aB ?aS ?aL ?_;(case aP => exact rfl);(case aB => exact qq140);(case aF => exact (fun k_ hk => Kd.fresh' (Kd.R_lt qq303) k_ hk));(case aO => exact (by (with_reducible repeat (first | apply Kd.Q_alloc | apply Kd.Q_drewN | apply Kd.Q_drew));exact Kd.Q_mono HO_6.out (fun _ hk => hk.2)));(case aS => exact qq111);(case aL => have:=LMc21.out;omega);intro v205 w27 ho hb hg hat;rw [← Ny204.out] at ho;replace HO_5:=am (Kd.R_after (ok:=(fun _ => True)) (by (with_reducible repeat (first | apply kA | apply kN | apply kD));exact Kd.R_mono HO_5.out (fun _ hk => ⟨trivial,hk⟩)) hg hat);replace BK190:=am qq340;replace HB:=am (hb);have HO206:=am (ho);clear HO_6;clear ho hb hg hat))
              go_roundg k2
              case measure => have:=HK1.out;have:=HK2.out;omega
              case rel => exact ⟨(y203),(y204),(wrap64 (x25_2 + 1)),qq311,H',⟨qq314⟩,⟨qq206⟩,⟨by (with_reducible repeat (first | apply Kd.Q_alloc | apply Kd.Q_drewN | apply Kd.Q_drew));exact HO206.out⟩,⟨qq254⟩,⟨qq177⟩⟩
             ·rw [if_neg c21] at H;exact absurd H (by simp)
            ·rw [if_neg c19] at H;have c19b0 : decide ((rd x5_2 (rd l1 x25_2)) < 0) = false:=decide_eq_false c19;clear c19;have H':=am H;clear H;have p200 : 0 ≤ (x25_2 : Int):=odt qq309;have q200 : x25_2 < (l1.length : Int):=odt qq309;obtain ⟨ad200,e200,hx200_0⟩:=Kd.at_int HR1.out x25_2 p200 q200
             cases e200
             replace hx200_0:=(ct HB.out hx200_0 :)
             replace p200:=eq_true p200;replace q200:=eq_true q200;obtain ⟨hcz28_0,hcz28_1,hcz28_2,hfz28_0,hfz28_1,hfz28_2⟩:=bcl3 BK190.out;go_wp2_with (first | ((with_reducible refine gate_callee (f:=49) rfl ?_);refine goesL_ (some 31) rfl rfl Try.func49 (by kernel_rfl) rfl #[.agg #[.int .i64 a0_0,.int .i64 a0_1,.slice A0_2 l0_2.length c0_2],.int .i64 (rd l1 x25_2)] rfl qq187 ?_;(with_reducible refine (impl_IsOpen.calls k2 a0_0 a0_1 _ _ l0_2 (rd l1 x25_2) true _ ?side1 ?side2 A15.out).mono ?_);(case side1 => exact qq117);(case side2 => exact qq334);rintro e w29 ⟨rfl,hb⟩;refine ⟨_,rfl,?_⟩;replace HO_5:=am qq491;replace HO_6:=am (Kd.Q_below qq210 hb);replace BK190:=am qq370;replace HB:=am qq492;(try clear hb);(try clear hb2);(try clear hk);(try clear hi);obtain ⟨Ao30,co30,eo30⟩:=Kd.R_slice HO_5.out;subst eo30;have p202 : 0 ≤ ((rd l1 x25_2) : Int):=odt qq309;have q202 : (rd l1 x25_2) < (x5_2.length : Int):=odt qq309;obtain ⟨ad202,e202,hx202_0⟩:=Kd.at_int (Kd.R_reads' HO_5.out).2.2 (rd l1 x25_2) p202 q202;cases e202;replace p202:=eq_true p202;replace q202:=eq_true q202))
             go_roundg k2
             case measure => have:=HK1.out;have:=HK2.out;omega
             case rel => exact ⟨(x5_2),(x6_2),(wrap64 (x25_2 + 1)),qq311,H',⟨qq314⟩,⟨qq303⟩,⟨qq210⟩,⟨qq254⟩,⟨qq177⟩⟩
           ·rw [if_neg c18] at H;exact absurd H (by simp)
          ·rw [if_neg c17] at H;exact absurd H (by simp)
         ·replace c16:=Bool.eq_false_iff.mpr c16;subst c16;have H1 : (impl_distances.l1 k2 x5_2 x6_2 l1 (l1.length : Int) (wrap64 (x25_2 + 1)) a0_0 a0_1 l0_2) = some r:=by rw [if_neg (show ¬ (false = true) by decide)] at H;exact H
          clear H;have H:=H1;clear H1;have H':=am H;clear H;have p200 : 0 ≤ (x25_2 : Int):=odt qq309;have q200 : x25_2 < (l1.length : Int):=odt qq309;obtain ⟨ad200,e200,hx200_0⟩:=Kd.at_int HR1.out x25_2 p200 q200
          cases e200
          replace hx200_0:=(ct HB.out hx200_0 :)
          replace p200:=eq_true p200;replace q200:=eq_true q200;obtain ⟨hcz31_0,hcz31_1,hcz31_2,hfz31_0,hfz31_1,hfz31_2⟩:=bcl3 BK190.out;go_wp2_with (first | ((with_reducible refine gate_callee (f:=49) rfl ?_);refine goesL_ (some 31) rfl rfl Try.func49 (by kernel_rfl) rfl #[.agg #[.int .i64 a0_0,.int .i64 a0_1,.slice A0_2 l0_2.length c0_2],.int .i64 (rd l1 x25_2)] rfl qq187 ?_;(with_reducible refine (impl_IsOpen.calls k2 a0_0 a0_1 _ _ l0_2 (rd l1 x25_2) false _ ?side1 ?side2 A15.out).mono ?_);(case side1 => exact qq117);(case side2 => exact qq334);rintro e w32 ⟨rfl,hb⟩;refine ⟨_,rfl,?_⟩;replace HO_5:=am qq491;replace HO_6:=am (Kd.Q_below qq210 hb);replace BK190:=am qq370;replace HB:=am qq492;(try clear hb);(try clear hb2);(try clear hk);(try clear hi)))
          go_roundg k2
          case measure => have:=HK1.out;have:=HK2.out;omega
          case rel => exact ⟨(x5_2),(x6_2),(wrap64 (x25_2 + 1)),qq311,H',⟨qq314⟩,⟨qq303⟩,⟨qq210⟩,⟨qq254⟩,⟨qq177⟩⟩
        ·rw [if_neg c14] at H;exact absurd H (by simp)
       ·rw [if_neg c13] at H;exact absurd H (by simp)
      ·rw [if_neg c12] at H;have c12b0 : decide (x25_2 < (l1.length : Int)) = false:=decide_eq_false c12;clear c12;have H':=am H;clear H;go_wp2
       go_loopg [6] k2 (fun kq v6 w' => ∃ (x5_3 : List Int) (x6_3 : List Int),Aside0 (impl_distances.l2 kq x5_3 x6_3 a0_0 a0_1 l0_2 = some r) ∧ Aside0 (kq ≤ k2) ∧ Aside0 (Kd.R (Kd.int .i64) 3 w' w.heap.size (fun k_ => some k_ ≠ (v6 : Value).ownBlock) u5 x5_3) ∧ Aside0 (Kd.Q (Kd.int .i64) 3 w' w.heap.size (fun k_ => some k_ ≠ (u5 : Value).ownBlock) v6 x6_3) ∧ Aside0 (w'.heap[gb190]? = some (.cells #[.int .i64 a0_0,.int .i64 a0_1,(.slice A0_2 l0_2.length c0_2)] 51 (0,0))) ∧ Aside0 (Below w.heap.size w w'))
       case atStart => exact ⟨(x5_2),(x6_2),H',⟨Nat.le_refl _⟩,⟨qq303⟩,⟨qq210⟩,⟨qq254⟩,⟨qq177⟩⟩
       case round =>
        clear H'
        try clear c1
        try clear c2
        try clear p2
        try clear q2
        try clear hx2
        try clear hf2
        try clear c4
        try clear p6
        try clear c7
        try clear c7b0
        try clear c8
        try clear c9
        try clear c12
        try clear c12b0
        try clear c13
        try clear c13b0
        try clear c14
        try clear c14b0
        try clear c16
        try clear c17
        try clear c17b0
        try clear c18
        try clear c18b0
        try clear c19
        try clear c19b0
        try clear p20
        try clear q20
        try clear hx20
        try clear hf20
        try clear c21
        try clear hcz22_0
        try clear hcz22_1
        try clear hcz22_2
        try clear hcz28_0
        try clear hcz28_1
        try clear hcz28_2
        try clear hcz31_0
        try clear hcz31_1
        try clear hcz31_2
        try clear hcz6_0
        try clear hcz6_1
        try clear hcz6_2
        try clear hfz22_0
        try clear hfz22_1
        try clear hfz22_2
        try clear hfz28_0
        try clear hfz28_1
        try clear hfz28_2
        try clear hfz31_0
        try clear hfz31_1
        try clear hfz31_2
        try clear hfz6_0
        try clear hfz6_1
        try clear hfz6_2
        try clear hx200_0
        try clear hx202_0
        try clear hx20_0
        try clear p2
        try clear p20
        try clear p200
        try clear p202
        try clear p6
        try clear q20
        try clear q200
        try clear q202
        obtain ⟨x5_3,x6_3,HA,HK3,HO_5,HO_6,BK190,HB⟩:=hrel
        cases gk with
        | zero => exact absurd HA.out (by simp [impl_distances.l2])
        | succ k3 =>
         have H:=HA.out;clear HA;simp only [impl_distances.l2] at H
         by_cases c33 : (x6_3.length : Int) > 0
         ·rw [if_pos c33] at H;have c33b0 : decide (0 < (x6_3.length : Int)) = true:=decide_eq_true c33;have c33b1 : decide (0 < x6_3.length) = true:=decide_eq_true (by omega);clear c33
          by_cases c34 : 0 < (x6_3.length : Int)
          ·rw [if_pos c34] at H;have c34b0 : decide (0 < (x6_3.length : Int)) = true:=decide_eq_true c34;have c34b1 : decide (0 < x6_3.length) = true:=decide_eq_true (by omega);clear c34
           by_cases c35 : 1 ≤ (x6_3.length : Int)
           ·rw [if_pos c35] at H;have c35b0:=eq_true c35;have c35b1 : decide (1 ≤ (x6_3.length : Int)) = true:=decide_eq_true c35;clear c35;obtain ⟨y208,hy208⟩ : ∃ y_ : List Int,y_ = (x6_3.drop (1 : Int).toNat):=⟨_,rfl⟩
            replace H : ((impl_Near.f k3 a0_0 a0_1 l0_2 (rd x6_3 0)).bind fun t211 => (impl_distances.l3 k3 x5_3 y208 (rd x6_3 0) t211 (t211.length : Int) 0 a0_0 a0_1 l0_2)) = some r:=by first | (rw [hy208];with_reducible exact H) | (have H2_:=(Option.bind_some _ _).symm.trans H;rw [hy208];with_reducible exact H2_) | (have H2_:=(Option.bind_some _ _).symm.trans H;with_reducible exact H2_) | with_reducible exact H | (rw [hy208];exact H) | exact H
            have Ny208:=am hy208;clear hy208;replace H:=bS.mp H;obtain ⟨t211,A360,H⟩:=H;(try dsimp only at H);have A36:=am A360;clear A360;have H':=am H;clear H;obtain ⟨Ao37,co37,eo37,_⟩:=Kd.Q_slice HO_6.out;subst eo37;have p207 : 0 ≤ (0 : Int):=(by omega)
            have q207 : 0 < (x6_3.length : Int):=odt qq309;obtain ⟨ad207,e207,hx207_0⟩:=Kd.at_int (Kd.Q_reads' HO_6.out).2.2 0 p207 q207
            cases e207
            have qi207 : (0 < x6_3.length) = True:=eq_true (by omega);(try rw [show ((0 : Int)).toNat = 0 from rfl] at hx207_0);(try rw [Addr.add_zero'] at hx207_0);replace p207:=eq_true p207;replace q207:=eq_true q207;have q38 : (1 : Int) ≤ ((x6_3.length : Int) : Int):=odt qq309;obtain ⟨i038,hi038,_,hsz38,_⟩:=info_parts info3;have hcut38:=cut_from (P:=Try.prog) 49 3 .i64 Try.underlying49 hi038 1 hsz38 (some ad207) x6_3.length co37 1 (by omega) q38;have hr38:=Kd.Q_drop (k:=(1 : Int).toNat) HO_6.out (by omega);obtain ⟨A38,hA38⟩ : ∃ A1,A1 = (if co37 = (1 : Int).toNat then (some ad207) else ((some ad207) : Option Addr).map (·.add ((1 : Int).toNat * 1))):=⟨_,rfl⟩
            obtain ⟨c38,hc38⟩ : ∃ c1,c1 = co37 - (1 : Int).toNat:=⟨_,rfl⟩
            have hy38 : y208.length = x6_3.length - (1 : Int).toNat:=(by rw [Ny208.out,List.length_drop])
            rw [← Ny208.out] at hr38;rw [← hy38,← hA38,← hc38] at hcut38;replace hr38 : Kd.Q (Kd.int .i64) 3 wr w.heap.size (fun k_ => some k_ ≠ (u5 : Value).ownBlock) (.slice A38 y208.length c38) y208:=(by rw [hA38,hc38,hy38];exact hr38)
            have HE38 : Aside0 ((Value.slice A38 y208.length c38).ownBlock = (.slice (some ad207) x6_3.length co37 : Value).ownBlock):=⟨by rw [hA38];split <;> (cases ((some ad207) : Option Addr) <;> rfl)⟩
            clear hy38 hi038 hsz38 HO_6 hA38 hc38;have HO210:=am hr38;clear hr38;replace q38:=eq_true q38;have n_:=am (Kd.R_mono (ok':=fun k_ => some k_ ≠ (.slice A38 y208.length c38 : Value).ownBlock) HO_5.out (fun k_ hk => (by rw [HE38.out];exact hk)));clear HO_5;have HO_5:=n_;clear n_;obtain ⟨hcz39_0,hcz39_1,hcz39_2,hfz39_0,hfz39_1,hfz39_2⟩:=bcl3 BK190.out;go_wp2_with (first | ((with_reducible refine gate_callee (f:=127) rfl ?_);refine goesL_ (some 57) rfl rfl Try.func127 (by kernel_rfl) rfl #[.agg #[.int .i64 a0_0,.int .i64 a0_1,.slice A0_2 l0_2.length c0_2],.int .i64 (rd x6_3 0)] rfl qq187 ?_;(with_reducible refine (impl_Near.calls k3 a0_0 a0_1 _ _ l0_2 (rd x6_3 0) t211 _ ?side1 ?side2 A36.out).mono ?_);(case side1 => exact qq117);(case side2 => exact qq334);rintro e w40 ⟨v212,rfl,ho0,hb⟩;refine ⟨_,rfl,?_⟩;have HO213:=am (Kd.R_lower (Kd.R_new' (Kd.R_new' ho0 (Kd.R_lt qq303)) (Kd.Q_lt qq207)) (below_size qq177));replace HO_5:=am (Kd.R_elder' qq303 (Kd.R_base ho0) hb);replace HO210:=am (Kd.Q_elder' qq207 (Kd.R_base ho0) hb);replace BK190:=am qq370;replace HB:=am qq492;(try clear hb);(try clear hb2);(try clear hk);(try clear hi);(try clear ho0);obtain ⟨Ao41,co41,eo41⟩:=Kd.R_slice HO213.out;subst eo41))
            go_loopg [6,59] k3 (fun kq v6 v59 w' => ∃ (x5_4 : List Int) (x6_4 : List Int) (x59_4 : Int),v59 = .int .i64 x59_4 ∧ Aside0 (impl_distances.l3 kq x5_4 x6_4 (rd x6_3 0) t211 (t211.length : Int) x59_4 a0_0 a0_1 l0_2 = some r) ∧ Aside0 (kq ≤ k3) ∧ Aside0 (Kd.R (Kd.int .i64) 3 w' w.heap.size (fun k_ => some k_ ≠ (v6 : Value).ownBlock ∧ some k_ ≠ ((.slice Ao41 t211.length co41) : Value).ownBlock) u5 x5_4) ∧ Aside0 (Kd.Q (Kd.int .i64) 3 w' w.heap.size (fun k_ => some k_ ≠ (u5 : Value).ownBlock ∧ some k_ ≠ ((.slice Ao41 t211.length co41) : Value).ownBlock) v6 x6_4) ∧ Aside0 (Kd.R (Kd.int .i64) 3 w' w.heap.size (fun k_ => some k_ ≠ (u5 : Value).ownBlock ∧ some k_ ≠ (v6 : Value).ownBlock) (.slice Ao41 t211.length co41) t211) ∧ Aside0 (w'.heap[gb190]? = some (.cells #[.int .i64 a0_0,.int .i64 a0_1,(.slice A0_2 l0_2.length c0_2)] 51 (0,0))) ∧ Aside0 (Below w.heap.size w w'))
            case atStart => exact ⟨(x5_3),(y208),(0),qq311,H',⟨Nat.le_refl _⟩,⟨qq303⟩,⟨qq207⟩,⟨by (with_reducible repeat (first | apply kA | apply kN | apply kD));exact Kd.R_mono HO213.out (fun _ hk => ⟨hk.1.2,hk.2⟩)⟩,⟨qq254⟩,⟨qq177⟩⟩
            case round =>
             clear H'
             try clear c1
             try clear c2
             try clear p2
             try clear q2
             try clear hx2
             try clear qi2
             try clear hf2
             try clear c3
             try clear q3
             try clear c4
             try clear p6
             try clear c7
             try clear c7b0
             try clear c8
             try clear c9
             try clear c12
             try clear c12b0
             try clear c13
             try clear c13b0
             try clear c14
             try clear c14b0
             try clear c16
             try clear c17
             try clear c17b0
             try clear c18
             try clear c18b0
             try clear c19
             try clear c19b0
             try clear p20
             try clear q20
             try clear hx20
             try clear qi20
             try clear hf20
             try clear c21
             try clear c33
             try clear c33b0
             try clear c33b1
             try clear c34
             try clear c34b0
             try clear c34b1
             try clear c35
             try clear c35b0
             try clear c35b1
             try clear c38
             try clear q38
             try clear hcz22_0
             try clear hcz22_1
             try clear hcz22_2
             try clear hcz28_0
             try clear hcz28_1
             try clear hcz28_2
             try clear hcz31_0
             try clear hcz31_1
             try clear hcz31_2
             try clear hcz39_0
             try clear hcz39_1
             try clear hcz39_2
             try clear hcz6_0
             try clear hcz6_1
             try clear hcz6_2
             try clear hfz22_0
             try clear hfz22_1
             try clear hfz22_2
             try clear hfz28_0
             try clear hfz28_1
             try clear hfz28_2
             try clear hfz31_0
             try clear hfz31_1
             try clear hfz31_2
             try clear hfz39_0
             try clear hfz39_1
             try clear hfz39_2
             try clear hfz6_0
             try clear hfz6_1
             try clear hfz6_2
             try clear hx200_0
             try clear hx202_0
             try clear hx207_0
             try clear hx20_0
             try clear p2
             try clear p20
             try clear p200
             try clear p202
             try clear p207
             try clear p6
             try clear q2
             try clear q20
             try clear q200
             try clear q202
             try clear q207
             try clear q38
             obtain ⟨x5_4,x6_4,x59_4,rfl,HA,HK4,HO_5,HO_6,HO_57,BK190,HB⟩:=hrel
             cases gk with
             | zero => exact absurd HA.out (by simp [impl_distances.l3])
             | succ k4 =>
              have H:=HA.out;clear HA;simp only [impl_distances.l3] at H
              by_cases c42 : x59_4 < (t211.length : Int)
              ·rw [if_pos c42] at H;have c42b0 : decide (x59_4 < (t211.length : Int)) = true:=decide_eq_true c42;clear c42
               by_cases c43 : 0 ≤ x59_4
               ·rw [if_pos c43] at H;have c43b0 : decide (0 ≤ x59_4) = true:=decide_eq_true c43;clear c43
                by_cases c44 : x59_4 < (t211.length : Int)
                ·rw [if_pos c44] at H;have c44b0 : decide (x59_4 < (t211.length : Int)) = true:=decide_eq_true c44;clear c44
                 by_cases c45 : 0 ≤ (rd t211 x59_4)
                 ·rw [if_pos c45] at H;have c45b0 : decide (0 ≤ (rd t211 x59_4)) = true:=decide_eq_true c45;clear c45
                  by_cases c46 : (rd t211 x59_4) < (x5_4.length : Int)
                  ·rw [if_pos c46] at H;have c46b0 : decide ((rd t211 x59_4) < (x5_4.length : Int)) = true:=decide_eq_true c46;clear c46
                   by_cases c47 : (rd x5_4 (rd t211 x59_4)) < 0
                   ·rw [if_pos c47] at H;have c47b0 : decide ((rd x5_4 (rd t211 x59_4)) < 0) = true:=decide_eq_true c47;clear c47
                    by_cases c48 : 0 ≤ (rd x6_3 0)
                    ·rw [if_pos c48] at H;have c48b0 : decide (0 ≤ (rd x6_3 0)) = true:=decide_eq_true c48;clear c48
                     by_cases c49 : (rd x6_3 0) < (x5_4.length : Int)
                     ·rw [if_pos c49] at H;have c49b0 : decide ((rd x6_3 0) < (x5_4.length : Int)) = true:=decide_eq_true c49;clear c49;obtain ⟨y217,hy217⟩ : ∃ y_ : List Int,y_ = (x5_4.set ((rd t211 x59_4) : Int).toNat (wrap64 ((rd x5_4 (rd x6_3 0)) + 1))):=⟨_,rfl⟩
                      replace H : (if x6_4.length < 17592186044416 then (impl_distances.l3 k4 y217 (x6_4 ++ [rd t211 x59_4]) (rd x6_3 0) t211 (t211.length : Int) (wrap64 (x59_4 + 1)) a0_0 a0_1 l0_2) else (none)) = some r:=by first | (rw [hy217];with_reducible exact H) | (have H2_:=(Option.bind_some _ _).symm.trans H;rw [hy217];with_reducible exact H2_) | (have H2_:=(Option.bind_some _ _).symm.trans H;with_reducible exact H2_) | with_reducible exact H | (rw [hy217];exact H) | exact H
                      have Ny217:=am hy217;clear hy217
                      by_cases c51 : x6_4.length < 17592186044416
                      ·rw [if_pos c51] at H;have LMc51:=am c51;clear c51;obtain ⟨y218,hy218⟩ : ∃ y_ : List Int,y_ = (x6_4 ++ [rd t211 x59_4]):=⟨_,rfl⟩
                       replace H : (impl_distances.l3 k4 y217 y218 (rd x6_3 0) t211 (t211.length : Int) (wrap64 (x59_4 + 1)) a0_0 a0_1 l0_2) = some r:=by first | (rw [hy218];with_reducible exact H) | (have H2_:=(Option.bind_some _ _).symm.trans H;rw [hy218];with_reducible exact H2_) | (have H2_:=(Option.bind_some _ _).symm.trans H;with_reducible exact H2_) | with_reducible exact H | (rw [hy218];exact H) | exact H
                       have Ny218:=am hy218;clear hy218;have H':=am H;clear H;have p214 : 0 ≤ (x59_4 : Int):=odt qq309;have q214 : x59_4 < (t211.length : Int):=odt qq309;obtain ⟨ad214,e214,hx214_0⟩:=Kd.at_int (Kd.R_reads' HO_57.out).2.2 x59_4 p214 q214
                       cases e214
                       replace p214:=eq_true p214;replace q214:=eq_true q214;obtain ⟨Ao52,co52,eo52⟩:=Kd.R_slice HO_5.out;subst eo52;have p215 : 0 ≤ ((rd t211 x59_4) : Int):=odt qq309;have q215 : (rd t211 x59_4) < (x5_4.length : Int):=odt qq309;obtain ⟨ad215,e215,hx215_0⟩:=Kd.at_int (Kd.R_reads' HO_5.out).2.2 (rd t211 x59_4) p215 q215
                       cases e215
                       replace p215:=eq_true p215;replace q215:=eq_true q215;have p216 : 0 ≤ ((rd x6_3 0) : Int):=odt qq309;have q216 : (rd x6_3 0) < (x5_4.length : Int):=odt qq309;obtain ⟨ad216,e216,hx216_0⟩:=Kd.at_int (Kd.R_reads' HO_5.out).2.2 (rd x6_3 0) p216 q216;obtain rfl : ad215 = ad216:=(by injection e216)
                       replace p216:=eq_true p216;replace q216:=eq_true q216;have p50 : 0 ≤ ((rd t211 x59_4) : Int):=odt qq309;have q50 : ((rd t211 x59_4) : Int) < ((x5_4.length : Int) : Int):=odt qq309;obtain ⟨go50,co50,eo50,gb50,gl50,cl50,HG50⟩:=Kd.R_form HO_5.out (by omega);(first | cases eo50 | (injection eo50 with ea_ en_ ec_;(first | subst ea_ | (injection ea_ with ea_;subst ea_));subst ec_;clear en_));have GB50:=am gb50;have GG50:=am HG50;clear gb50 gl50 HG50;(first | simp only [add_plain] at hx215_0 | skip);(first | simp only [add_plain] at hx216_0 | skip);obtain ⟨hx50_0,hf50_0⟩:=Kd.R_celln 0 HO_5.out ((rd t211 x59_4) : Int) p50 q50;replace p50:=eq_true p50;replace q50:=eq_true q50;have HP53:=Kd.R_putg HO_5.out ((rd t211 x59_4) : Int) (wrap64 ((rd x5_4 (rd x6_3 0)) + 1));go_wp2_with (first | ((with_reducible refine gate_store (t:=3) (p:=75) rfl ?_);refine store_event (t:=3) (p:=75) (v:=?vo_w54) (w1:=(wr.setCell ⟨go50,((rd t211 x59_4) : Int).toNat,none⟩ (.int .i64 (wrap64 ((rd x5_4 (rd x6_3 0)) + 1))))) ?hg ?ho ?hn ?hr ?_;(case ho => rfl);(case hg => rfl);(case hn => rfl);(case hr => exact qq312);intro w54 hw;have hg : wr.grownBy w54 (some go50):=(by rw [hw];exact HP53.2);have hp_ : Kd.R (Kd.int .i64) 3 w54 w.heap.size (fun k_ => some k_ ≠ (u6 : Value).ownBlock ∧ some k_ ≠ (.slice (some ad214) t211.length co41 : Value).ownBlock) (.slice (some ⟨go50,0,none⟩) x5_4.length co52) y217:=(by rw [hw,Ny217.out];exact HP53.1);clear HP53;replace HO_6:=am (Kd.Q_after (v:=(.slice (some ⟨go50,0,none⟩) x5_4.length co52)) (v1:=(.slice (some ⟨go50,0,none⟩) x5_4.length co52)) (ok:=(fun k_ => some k_ ≠ (.slice (some ad214) t211.length co41 : Value).ownBlock)) qq143 hg (.inl rfl));replace HO_57:=am (Kd.R_after (v:=(.slice (some ⟨go50,0,none⟩) x5_4.length co52)) (v1:=(.slice (some ⟨go50,0,none⟩) x5_4.length co52)) (ok:=(fun k_ => some k_ ≠ (u6 : Value).ownBlock)) qq197 hg (.inl rfl));replace BK190:=am qq339;replace HO_5:=am (hp_);replace HB:=am ((by rw [hw];exact below_set (HB.out) GB50.out : Below w.heap.size w w54));clear hg hw hp_) | ((with_reducible refine gate_builtin (b:=.append) (xs:=#[.tmp 76,.tmp 78]) rfl ?_);at_builtin;refine Kd.Q_append (Kd.int .i64) (w0:=w) w.heap.size rfl (.tmp 76) (.tmp 78) 49 3 (.int .i64 0) 8 rfl Try.underlying49 info3 rfl (by decide) (by omega) u6 x6_4 (rd t211 x59_4) [.int .i64 (rd t211 x59_4)] (fun k_ => some k_ ≠ (.slice (some ⟨go50,0,none⟩) x5_4.length co52 : Value).ownBlock ∧ some k_ ≠ (.slice (some ad214) t211.length co41 : Value).ownBlock) (fun _ => False) rfl rfl ?aP (fun _ hk => hk.elim) ?aF ?aO ?aB ?aS ?aL ?_;(case aP => exact rfl);(case aB => exact qq140);(case aF => exact (fun k_ hk => ⟨Kd.fresh' (Kd.R_lt qq303) k_ hk,Kd.fresh' (Kd.R_lt qq270) k_ hk⟩));(case aO => exact qq143);(case aS => exact qq111);(case aL => have:=LMc51.out;omega);intro v219 w55 ho hb hg hat;rw [← Ny218.out] at ho;replace HO_5:=am (Kd.R_after (ok:=(fun k_ => some k_ ≠ (.slice (some ad214) t211.length co41 : Value).ownBlock)) qq201 hg hat);replace HO_57:=am (Kd.R_after (ok:=(fun k_ => some k_ ≠ (.slice (some ⟨go50,0,none⟩) x5_4.length co52 : Value).ownBlock)) qq197 hg hat);replace BK190:=am qq340;replace HB:=am (hb);have HO220:=am (ho);clear HO_6;clear ho hb hg hat))
                       go_roundg k4
                       case measure => have:=HK1.out;have:=HK2.out;have:=HK3.out;have:=HK4.out;omega
                       case rel => exact ⟨(y217),(y218),(wrap64 (x59_4 + 1)),qq311,H',⟨qq306⟩,⟨qq201⟩,⟨by (with_reducible repeat (first | apply Kd.Q_alloc | apply Kd.Q_drewN | apply Kd.Q_drew));exact HO220.out⟩,⟨qq270⟩,⟨qq254⟩,⟨qq177⟩⟩
                      ·rw [if_neg c51] at H;exact absurd H (by simp)
                     ·rw [if_neg c49] at H;exact absurd H (by simp)
                    ·rw [if_neg c48] at H;exact absurd H (by simp)
                   ·rw [if_neg c47] at H;have c47b0 : decide ((rd x5_4 (rd t211 x59_4)) < 0) = false:=decide_eq_false c47;clear c47;have H':=am H;clear H;have p214 : 0 ≤ (x59_4 : Int):=odt qq309;have q214 : x59_4 < (t211.length : Int):=odt qq309;obtain ⟨ad214,e214,hx214_0⟩:=Kd.at_int (Kd.R_reads' HO_57.out).2.2 x59_4 p214 q214
                    cases e214
                    replace p214:=eq_true p214;replace q214:=eq_true q214;obtain ⟨Ao56,co56,eo56⟩:=Kd.R_slice HO_5.out;subst eo56;have p215 : 0 ≤ ((rd t211 x59_4) : Int):=odt qq309;have q215 : (rd t211 x59_4) < (x5_4.length : Int):=odt qq309;obtain ⟨ad215,e215,hx215_0⟩:=Kd.at_int (Kd.R_reads' HO_5.out).2.2 (rd t211 x59_4) p215 q215
                    cases e215
                    replace p215:=eq_true p215;replace q215:=eq_true q215;go_wp2
                    go_roundg k4
                    case measure => have:=HK1.out;have:=HK2.out;have:=HK3.out;have:=HK4.out;omega
                    case rel => exact ⟨(x5_4),(x6_4),(wrap64 (x59_4 + 1)),qq311,H',⟨qq306⟩,⟨qq303⟩,⟨qq210⟩,⟨qq270⟩,⟨qq254⟩,⟨qq177⟩⟩
                  ·rw [if_neg c46] at H;exact absurd H (by simp)
                 ·rw [if_neg c45] at H;exact absurd H (by simp)
                ·rw [if_neg c44] at H;exact absurd H (by simp)
               ·rw [if_neg c43] at H;exact absurd H (by simp)
              ·rw [if_neg c42] at H;have c42b0 : decide (x59_4 < (t211.length : Int)) = false:=decide_eq_false c42;clear c42;have H':=am H;clear H;go_wp2
               go_roundg k4
               case measure => have:=HK1.out;have:=HK2.out;have:=HK3.out;have:=HK4.out;omega
               case rel => exact ⟨(x5_4),(x6_4),H',⟨qq306⟩,⟨by (with_reducible repeat (first | apply kA | apply kN | apply kD));exact Kd.R_mono HO_5.out (fun _ hk => hk.1)⟩,⟨by (with_reducible repeat (first | apply Kd.Q_alloc | apply Kd.Q_drewN | apply Kd.Q_drew));exact Kd.Q_mono HO_6.out (fun _ hk => hk.1)⟩,⟨qq254⟩,⟨qq177⟩⟩
           ·rw [if_neg c35] at H;exact absurd H (by simp)
          ·rw [if_neg c34] at H;exact absurd H (by simp)
         ·rw [if_neg c33] at H;have c33b0 : decide (0 < (x6_3.length : Int)) = false:=decide_eq_false c33;have c33b1 : decide (0 < x6_3.length) = false:=decide_eq_false (by omega);clear c33;obtain rfl:=Option.some.inj H;obtain ⟨Ao57,co57,eo57,_⟩:=Kd.Q_slice HO_6.out;subst eo57;go_wp2
          go_ret
          exact ⟨_,qq263,qq203,qq177⟩

/-! ### impl_Days: function 35 -/
def impl_Days.f (k : Nat) (a0_0 : Int) (a0_1 : Int) (l0_2 : List Int) (a1 : Int) (a2 : Int) : Option (Int) := (impl_IsOpen.f k a0_0 a0_1 l0_2 a1).bind fun t222 => (if t222 = true then ((impl_IsOpen.f k a0_0 a0_1 l0_2 a2).bind fun t223 => (if t223 = true then ((impl_distances.f k a0_0 a0_1 l0_2 (([a1] : List Int))).bind fun t227 => (if 0 ≤ a2 then (if a2 < (t227.length : Int) then (some (rd t227 a2)) else (none)) else (none))) else (some (-1)))) else (some (-1)))
set_option maxHeartbeats 8000000 in
set_option maxRecDepth 100000 in
theorem impl_Days.calls (k : Nat) (a0_0 : Int) (a0_1 : Int) (A0_2 : Option Addr) (c0_2 : Nat) (l0_2 : List Int) (a1 : Int) (a2 : Int) (r : Int) (w : World) (hr0_2 : Kd.C (Kd.int .i64) w A0_2 l0_2.length l0_2) (hc0_2 : l0_2.length ≤ c0_2) (h : impl_Days.f k a0_0 a0_1 l0_2 a1 a2 = some r) :
  Calls Try.prog 35 #[.agg #[.int .i64 a0_0,.int .i64 a0_1,.slice A0_2 l0_2.length c0_2],.int .i64 a1,.int .i64 a2] w fun e w' => e = .returned (.int .i64 r) ∧ Below w.heap.size w w':=by
 have hu51:=Try.underlying51;have HR0_2:=am hr0_2;have HC0_2:=am hc0_2;clear hr0_2 hc0_2;have HB:=am qq465;have H : ((impl_IsOpen.f k a0_0 a0_1 l0_2 a1).bind fun t222 => (if t222 = true then ((impl_IsOpen.f k a0_0 a0_1 l0_2 a2).bind fun t223 => (if t223 = true then ((impl_distances.f k a0_0 a0_1 l0_2 (([a1] : List Int))).bind fun t227 => (if 0 ≤ a2 then (if a2 < (t227.length : Int) then (some (rd t227 a2)) else (none)) else (none))) else (some (-1)))) else (some (-1)))) = some r:=h;clear h;replace H:=bS.mp H;obtain ⟨t222,A40,H⟩:=H;(try dsimp only at H);have A4:=am A40;clear A40
 by_cases c5 : t222 = true
 ·subst c5;rw [if_pos rfl] at H;replace H:=bS.mp H;obtain ⟨t223,A60,H⟩:=H;(try dsimp only at H);have A6:=am A60;clear A60
  by_cases c7 : t223 = true
  ·subst c7;rw [if_pos rfl] at H;obtain ⟨y224,hy224⟩ : ∃ y_ : List Int,y_ = (([a1] : List Int)):=⟨_,rfl⟩
   replace H : ((impl_distances.f k a0_0 a0_1 l0_2 y224).bind fun t227 => (if 0 ≤ a2 then (if a2 < (t227.length : Int) then (some (rd t227 a2)) else (none)) else (none))) = some r:=by first | (rw [hy224];with_reducible exact H) | (have H2_:=(Option.bind_some _ _).symm.trans H;rw [hy224];with_reducible exact H2_) | (have H2_:=(Option.bind_some _ _).symm.trans H;with_reducible exact H2_) | with_reducible exact H | (rw [hy224];exact H) | exact H
   have Ny224:=am hy224;clear hy224;replace H:=bS.mp H;obtain ⟨t227,A80,H⟩:=H;(try dsimp only at H);have A8:=am A80;clear A80
   by_cases c9 : 0 ≤ a2
   ·rw [if_pos c9] at H;have c9b0 : decide (0 ≤ a2) = true:=decide_eq_true c9;clear c9
    by_cases c10 : a2 < (t227.length : Int)
    ·rw [if_pos c10] at H;have c10b0 : decide (a2 < (t227.length : Int)) = true:=decide_eq_true c10;clear c10;obtain rfl:=Option.some.inj H
     go_enter Try.func35,Try.ntmps35
     go_wp2_with (first | ((with_reducible refine gate_dst (N:=3) rfl ?_);refine box_event ?hg (N:=3) ?hd (cs:=#[.int .i64 a0_0,.int .i64 a0_1,.slice A0_2 l0_2.length c0_2]) (t:=51) ?hr ?_;(case hd => rfl);(case hg => rfl);(case hr => exact qq312);intro gb221 hg w11 hbox hb;have BK221:=am (hbox);have GW221:=am qq438;have GE221:=am qq438;replace HB:=am qq488;clear hb hbox hg;obtain ⟨hcz12_0,hcz12_1,hcz12_2,hfz12_0,hfz12_1,hfz12_2⟩:=bcl3 BK221.out) | ((with_reducible refine gate_callee (f:=49) rfl ?_);refine goesL_ (some 9) rfl rfl Try.func49 (by kernel_rfl) rfl #[.agg #[.int .i64 a0_0,.int .i64 a0_1,.slice A0_2 l0_2.length c0_2],.int .i64 a1] rfl qq187 ?_;(with_reducible refine (impl_IsOpen.calls k a0_0 a0_1 _ _ l0_2 a1 true _ ?side1 ?side2 A4.out).mono ?_);(case side1 => exact qq117);(case side2 => exact qq334);rintro e w13 ⟨rfl,hb⟩;refine ⟨_,rfl,?_⟩;replace BK221:=am qq371;replace HB:=am qq493;(try clear hb);(try clear hb2);(try clear hk);(try clear hi);obtain ⟨hcz14_0,hcz14_1,hcz14_2,hfz14_0,hfz14_1,hfz14_2⟩:=bcl3 BK221.out) | (go_at_call 49;(with_reducible refine (impl_IsOpen.calls k a0_0 a0_1 _ _ l0_2 a2 true _ ?side1 ?side2 A6.out).mono ?_);(case side1 => exact qq117);(case side2 => exact qq334);rintro e w15 ⟨rfl,hb⟩;replace BK221:=am qq371;replace HB:=am qq493;(try clear hb);(try clear hb2);(try clear hk);(try clear hi);obtain ⟨hcz16_0,hcz16_1,hcz16_2,hfz16_0,hfz16_1,hfz16_2⟩:=bcl3 BK221.out) | ((with_reducible refine gate_dst (N:=19) rfl ?_);refine Kd.R_lit (Kd.int .i64) _ 3 ?hg (N:=19) ?hd (xs:=([a1] : List Int)) (inner:=[.int .i64 a1]) (ok:=fun _ => True) (okp:=fun _ => True) ?hr ?hp (fun _ hk => hk) trivial (Below.refl _ _) (Nat.le_refl _) (by simp) ?_;(case hd => rfl);(case hg => rfl);(case hr => exact qq312);(case hp => exact qq266);intro v225 w17 ho18 hb hg_ hnew_;clear hg_ hnew_;(first | rw [← Ny224.out] at ho18 | (simp only [Int.reduceToNat] at ho18;rw [← Ny224.out] at ho18));have HO226:=am (Kd.R_lower ho18 (below_size qq176));replace BK221:=am qq371;replace HB:=am qq493;clear hb ho18;obtain ⟨Ao19,co19,eo19⟩:=Kd.R_slice HO226.out;subst eo19) | ((with_reducible refine gate_callee (f:=90) rfl ?_);refine goesL_ (some 20) rfl rfl Try.func90 (by kernel_rfl) rfl #[.agg #[.int .i64 a0_0,.int .i64 a0_1,.slice A0_2 l0_2.length c0_2],.slice Ao19 y224.length co19] rfl qq187 ?_;(with_reducible refine (impl_distances.calls k a0_0 a0_1 _ _ l0_2 _ _ y224 t227 _ ?side1 ?side2 ?side3 ?side4 A8.out).mono ?_);(case side1 => exact qq117);(case side2 => exact qq334);(case side3 => repeat (first | exact (Kd.R_reads' HO226.out).2.2 | (with_reducible refine cA ?_ _) | (with_reducible refine cN ?_ _) | (with_reducible refine cD ?_)));(case side4 => exact (Kd.R_reads' HO226.out).2.1);rintro e w20 ⟨v228,rfl,ho0,hb⟩;refine ⟨_,rfl,?_⟩;have HO229:=am (Kd.R_lower (Kd.R_new' ho0 (Kd.R_lt qq295)) (below_size qq176));replace HO226:=am (Kd.R_elder' qq295 (Kd.R_base ho0) hb);replace BK221:=am qq371;replace HB:=am qq493;(try clear hb);(try clear hb2);(try clear hk);(try clear hi);(try clear ho0);obtain ⟨Ao21,co21,eo21⟩:=Kd.R_slice HO229.out;subst eo21;have p230 : 0 ≤ (a2 : Int):=odt qq309;have q230 : a2 < (t227.length : Int):=odt qq309;obtain ⟨ad230,e230,hx230_0⟩:=Kd.at_int (Kd.R_reads' HO229.out).2.2 a2 p230 q230;cases e230;replace p230:=eq_true p230;replace q230:=eq_true q230))
     go_ret
     exact ⟨qq263,qq176⟩
    ·rw [if_neg c10] at H;exact absurd H (by simp)
   ·rw [if_neg c9] at H;exact absurd H (by simp)
  ·replace c7:=Bool.eq_false_iff.mpr c7;subst c7;have H1 : (some (-1)) = some r:=by rw [if_neg (show ¬ (false = true) by decide)] at H;exact H
   clear H;have H:=H1;clear H1;obtain rfl:=Option.some.inj H
   go_enter Try.func35,Try.ntmps35
   go_wp2_with (first | ((with_reducible refine gate_dst (N:=3) rfl ?_);refine box_event ?hg (N:=3) ?hd (cs:=#[.int .i64 a0_0,.int .i64 a0_1,.slice A0_2 l0_2.length c0_2]) (t:=51) ?hr ?_;(case hd => rfl);(case hg => rfl);(case hr => exact qq312);intro gb221 hg w22 hbox hb;have BK221:=am (hbox);have GW221:=am qq438;have GE221:=am qq438;replace HB:=am qq488;clear hb hbox hg;obtain ⟨hcz23_0,hcz23_1,hcz23_2,hfz23_0,hfz23_1,hfz23_2⟩:=bcl3 BK221.out) | ((with_reducible refine gate_callee (f:=49) rfl ?_);refine goesL_ (some 9) rfl rfl Try.func49 (by kernel_rfl) rfl #[.agg #[.int .i64 a0_0,.int .i64 a0_1,.slice A0_2 l0_2.length c0_2],.int .i64 a1] rfl qq187 ?_;(with_reducible refine (impl_IsOpen.calls k a0_0 a0_1 _ _ l0_2 a1 true _ ?side1 ?side2 A4.out).mono ?_);(case side1 => exact qq117);(case side2 => exact qq334);rintro e w24 ⟨rfl,hb⟩;refine ⟨_,rfl,?_⟩;replace BK221:=am qq371;replace HB:=am qq493;(try clear hb);(try clear hb2);(try clear hk);(try clear hi);obtain ⟨hcz25_0,hcz25_1,hcz25_2,hfz25_0,hfz25_1,hfz25_2⟩:=bcl3 BK221.out) | (go_at_call 49;(with_reducible refine (impl_IsOpen.calls k a0_0 a0_1 _ _ l0_2 a2 false _ ?side1 ?side2 A6.out).mono ?_);(case side1 => exact qq117);(case side2 => exact qq334);rintro e w26 ⟨rfl,hb⟩;replace BK221:=am qq371;replace HB:=am qq493;(try clear hb);(try clear hb2);(try clear hk);(try clear hi)))
   go_ret
   exact ⟨qq263,qq176⟩
 ·replace c5:=Bool.eq_false_iff.mpr c5;subst c5;have H1 : (some (-1)) = some r:=by rw [if_neg (show ¬ (false = true) by decide)] at H;exact H
  clear H;have H:=H1;clear H1;obtain rfl:=Option.some.inj H
  go_enter Try.func35,Try.ntmps35
  go_wp2_with (first | ((with_reducible refine gate_dst (N:=3) rfl ?_);refine box_event ?hg (N:=3) ?hd (cs:=#[.int .i64 a0_0,.int .i64 a0_1,.slice A0_2 l0_2.length c0_2]) (t:=51) ?hr ?_;(case hd => rfl);(case hg => rfl);(case hr => exact qq312);intro gb221 hg w27 hbox hb;have BK221:=am (hbox);have GW221:=am qq438;have GE221:=am qq438;replace HB:=am qq488;clear hb hbox hg;obtain ⟨hcz28_0,hcz28_1,hcz28_2,hfz28_0,hfz28_1,hfz28_2⟩:=bcl3 BK221.out) | ((with_reducible refine gate_callee (f:=49) rfl ?_);refine goesL_ (some 9) rfl rfl Try.func49 (by kernel_rfl) rfl #[.agg #[.int .i64 a0_0,.int .i64 a0_1,.slice A0_2 l0_2.length c0_2],.int .i64 a1] rfl qq187 ?_;(with_reducible refine (impl_IsOpen.calls k a0_0 a0_1 _ _ l0_2 a1 false _ ?side1 ?side2 A4.out).mono ?_);(case side1 => exact qq117);(case side2 => exact qq334);rintro e w29 ⟨rfl,hb⟩;refine ⟨_,rfl,?_⟩;replace BK221:=am qq371;replace HB:=am qq493;(try clear hb);(try clear hb2);(try clear hk);(try clear hi)))
  go_ret
  exact ⟨qq263,qq176⟩

end Go.Proofs.Ytcbkknpmeknppaa.PFnExactPlanFood
