/- Contracts of functions that the law FnSearch reaches, for its row: lines that the kit's printer wrote for this claim, set shorter by a program of this session (own.py), and what fell in Lean proved anew. Lean checks them. -/
import Derived.Test.YtimpjccgnkbgmaaSFnSearchx0
namespace Go.Proofs.Ytimpjccgnkbgmaa.PFnSearch
open Go.RowKit Go.Proofs.YtimpjccgnkbgmaaW.PrintWords Go.Proofs.YtimpjccgnkbgmaaW.PrintLast Go.Proofs.YtimpjccgnkbgmaaW.PrintMore
attribute [local go_sem] max2_int min2_int max_two min_two max_three min_three max_four min_four   -- for this text's walks alone
set_option linter.unusedVariables false
set_option linter.unusedSimpArgs false

/-! ### spec_l4Near: function 48 -/
mutual
def spec_l4Near.j0 : Nat → Int → List Int → Bool → Int → Int → List Int → Option (List Int)
 | 0,_,_,_,_,_,_ => none
 | k + 1,x1,x5,x21,x337000,x337001,x337002 => if x21 = true then (if x5.length < 17592186044416 then (spec_l4Near.j1 k x1 (x5 ++ [wrap64 (x1 - x337000)]) x337000 x337001 x337002) else (none)) else (spec_l4Near.j1 k x1 x5 x337000 x337001 x337002)
def spec_l4Near.j1 : Nat → Int → List Int → Int → Int → List Int → Option (List Int)
 | 0,_,_,_,_,_ => none
 | k + 1,x1,x5,x337000,x337001,x337002 => if x337000 = 0 then (none) else (if (Int.tmod x1 x337000) > 0 then (if 0 ≤ (wrap64 (x1 - 1)) then (if (wrap64 (x1 - 1)) < (x337002.length : Int) then (spec_l4Near.j2 k x1 x5 ((rd x337002 (wrap64 (x1 - 1))) != 2) x337000 x337001 x337002) else (none)) else (none)) else (spec_l4Near.j2 k x1 x5 false x337000 x337001 x337002))
def spec_l4Near.j2 : Nat → Int → List Int → Bool → Int → Int → List Int → Option (List Int)
 | 0,_,_,_,_,_,_ => none
 | k + 1,x1,x5,x42,x337000,x337001,x337002 => if x42 = true then (if x5.length < 17592186044416 then (spec_l4Near.j3 k x1 (x5 ++ [wrap64 (x1 - 1)]) x337000 x337001 x337002) else (none)) else (spec_l4Near.j3 k x1 x5 x337000 x337001 x337002)
def spec_l4Near.j3 : Nat → Int → List Int → Int → Int → List Int → Option (List Int)
 | 0,_,_,_,_,_ => none
 | k + 1,x1,x5,x337000,x337001,x337002 => if x337000 = 0 then (none) else (if (Int.tmod x1 x337000) < (wrap64 (x337000 - 1)) then (if 0 ≤ (wrap64 (x1 + 1)) then (if (wrap64 (x1 + 1)) < (x337002.length : Int) then (spec_l4Near.j4 k x1 x5 ((rd x337002 (wrap64 (x1 + 1))) != 2) x337000 x337001 x337002) else (none)) else (none)) else (spec_l4Near.j4 k x1 x5 false x337000 x337001 x337002))
def spec_l4Near.j4 : Nat → Int → List Int → Bool → Int → Int → List Int → Option (List Int)
 | 0,_,_,_,_,_,_ => none
 | k + 1,x1,x5,x64,x337000,x337001,x337002 => if x64 = true then (if x5.length < 17592186044416 then ((some (x5 ++ [wrap64 (x1 + 1)] : List Int)).bind fun y349 => (if (wrap64 (x1 + x337000)) < (x337002.length : Int) then (if 0 ≤ (wrap64 (x1 + x337000)) then (if (rd x337002 (wrap64 (x1 + x337000))) = 2 then (some y349) else (if y349.length < 17592186044416 then (some (y349 ++ [wrap64 (x1 + x337000)])) else (none))) else (none)) else (some y349))) else (none)) else (if (wrap64 (x1 + x337000)) < (x337002.length : Int) then (if 0 ≤ (wrap64 (x1 + x337000)) then (if (rd x337002 (wrap64 (x1 + x337000))) = 2 then (some x5) else (if x5.length < 17592186044416 then (some (x5 ++ [wrap64 (x1 + x337000)])) else (none))) else (none)) else (some x5))
end
def spec_l4Near.f (k : Nat) (a0_0 : Int) (a0_1 : Int) (l0_2 : List Int) (a1 : Int) : Option (List Int) := (some (([] : List Int) : List Int)).bind fun y337 => (if a1 ≥ a0_0 then (if 0 ≤ (wrap64 (a1 - a0_0)) then (if (wrap64 (a1 - a0_0)) < (l0_2.length : Int) then (spec_l4Near.j0 k a1 y337 ((rd l0_2 (wrap64 (a1 - a0_0))) != 2) a0_0 a0_1 l0_2) else (none)) else (none)) else (spec_l4Near.j0 k a1 y337 false a0_0 a0_1 l0_2))
set_option maxHeartbeats 8000000 in
set_option maxRecDepth 100000 in
theorem spec_l4Near.calls (k : Nat) (a0_0 : Int) (a0_1 : Int) (A0_2 : Option Addr) (c0_2 : Nat) (l0_2 : List Int) (a1 : Int) (r : List Int) (w : World) (hr0_2 : Kd.C (Kd.int .i64) w A0_2 l0_2.length l0_2) (hc0_2 : l0_2.length ≤ c0_2) (h : spec_l4Near.f k a0_0 a0_1 l0_2 a1 = some r) :
  Calls Try.prog 48 #[.agg #[.int .i64 a0_0,.int .i64 a0_1,.slice A0_2 l0_2.length c0_2],.int .i64 a1] w fun e w' => ∃ v0_ : Value,e = .returned (v0_) ∧ Kd.R (Kd.int .i64) 3 w' w.heap.size (fun _ => True) v0_ r ∧ Below w.heap.size w w':=by
 have hu26:=Try.underlying26;have HR0_2:=am hr0_2;have HC0_2:=am hc0_2;clear hr0_2 hc0_2;have HB:=am qq354;have H : ((some (([] : List Int) : List Int)).bind fun y337 => (if a1 ≥ a0_0 then (if 0 ≤ (wrap64 (a1 - a0_0)) then (if (wrap64 (a1 - a0_0)) < (l0_2.length : Int) then (spec_l4Near.j0 k a1 y337 ((rd l0_2 (wrap64 (a1 - a0_0))) != 2) a0_0 a0_1 l0_2) else (none)) else (none)) else (spec_l4Near.j0 k a1 y337 false a0_0 a0_1 l0_2))) = some r:=h;clear h;obtain ⟨y337,hy337⟩ : ∃ y_ : List Int,y_ = (([] : List Int)):=⟨_,rfl⟩
 replace H : (if a1 ≥ a0_0 then (if 0 ≤ (wrap64 (a1 - a0_0)) then (if (wrap64 (a1 - a0_0)) < (l0_2.length : Int) then (spec_l4Near.j0 k a1 y337 ((rd l0_2 (wrap64 (a1 - a0_0))) != 2) a0_0 a0_1 l0_2) else (none)) else (none)) else (spec_l4Near.j0 k a1 y337 false a0_0 a0_1 l0_2)) = some r:=by first | (rw [hy337];with_reducible exact H) | (have H2_:=(Option.bind_some _ _).symm.trans H;rw [hy337];with_reducible exact H2_) | (have H2_:=(Option.bind_some _ _).symm.trans H;with_reducible exact H2_) | with_reducible exact H | (rw [hy337];exact H) | exact H
 have Ny337:=am hy337;clear hy337;have HC3:=am H;clear H
 go_enter Try.func48,Try.ntmps48
 go_upto_region 2 with (first | ((with_reducible refine gate_dst (N:=2) rfl ?_);refine box_event ?hg (N:=2) ?hd (cs:=#[.int .i64 a0_0,.int .i64 a0_1,.slice A0_2 l0_2.length c0_2]) (t:=26) ?hr ?_;(case hd => rfl);(case hg => rfl);(case hr => exact qq261);intro gb336 hg w4 hbox hb;have BK336:=am (hbox);have GW336:=am qq349;have GE336:=am qq349;replace HB:=am qq358;clear hb hbox hg) | ((with_reducible refine gate_dst (N:=6) rfl ?_);refine Kd.R_lit (Kd.int .i64) _ 3 ?hg (N:=6) ?hd (xs:=([] : List Int)) (inner:=[]) (ok:=fun _ => True) (okp:=fun _ => True) ?hr ?hp (fun _ hk => hk) trivial (Below.refl _ _) (Nat.le_refl _) (by simp) ?_;(case hd => rfl);(case hg => rfl);(case hr => exact qq261);(case hp => exact qq274);intro v338 w5 ho6 hb hg_ hnew_;clear hg_ hnew_;(first | rw [← Ny337.out] at ho6 | (simp only [Int.reduceToNat] at ho6;rw [← Ny337.out] at ho6));have HO339:=am (Kd.R_lower ho6 (below_size qq124));replace BK336:=am qq308;replace HB:=am (below_step qq124 hb);clear hb ho6))
 repeat (go_quiet (first | ((with_reducible refine gate_dst (N:=2) rfl ?_);refine box_event ?hg (N:=2) ?hd (cs:=#[.int .i64 a0_0,.int .i64 a0_1,.slice A0_2 l0_2.length c0_2]) (t:=26) ?hr ?_;(case hd => rfl);(case hg => rfl);(case hr => exact qq261);intro gb336 hg w4 hbox hb;have BK336:=am (hbox);have GW336:=am qq349;have GE336:=am qq349;replace HB:=am qq358;clear hb hbox hg) | ((with_reducible refine gate_dst (N:=6) rfl ?_);refine Kd.R_lit (Kd.int .i64) _ 3 ?hg (N:=6) ?hd (xs:=([] : List Int)) (inner:=[]) (ok:=fun _ => True) (okp:=fun _ => True) ?hr ?hp (fun _ hk => hk) trivial (Below.refl _ _) (Nat.le_refl _) (by simp) ?_;(case hd => rfl);(case hg => rfl);(case hr => exact qq261);(case hp => exact qq274);intro v338 w5 ho6 hb hg_ hnew_;clear hg_ hnew_;(first | rw [← Ny337.out] at ho6 | (simp only [Int.reduceToNat] at ho6;rw [← Ny337.out] at ho6));have HO339:=am (Kd.R_lower ho6 (below_size qq124));replace BK336:=am qq308;replace HB:=am (below_step qq124 hb);clear hb ho6));go_upto_region 2 with (first | ((with_reducible refine gate_dst (N:=2) rfl ?_);refine box_event ?hg (N:=2) ?hd (cs:=#[.int .i64 a0_0,.int .i64 a0_1,.slice A0_2 l0_2.length c0_2]) (t:=26) ?hr ?_;(case hd => rfl);(case hg => rfl);(case hr => exact qq261);intro gb336 hg w4 hbox hb;have BK336:=am (hbox);have GW336:=am qq349;have GE336:=am qq349;replace HB:=am qq358;clear hb hbox hg) | ((with_reducible refine gate_dst (N:=6) rfl ?_);refine Kd.R_lit (Kd.int .i64) _ 3 ?hg (N:=6) ?hd (xs:=([] : List Int)) (inner:=[]) (ok:=fun _ => True) (okp:=fun _ => True) ?hr ?hp (fun _ hk => hk) trivial (Below.refl _ _) (Nat.le_refl _) (by simp) ?_;(case hd => rfl);(case hg => rfl);(case hr => exact qq261);(case hp => exact qq274);intro v338 w5 ho6 hb hg_ hnew_;clear hg_ hnew_;(first | rw [← Ny337.out] at ho6 | (simp only [Int.reduceToNat] at ho6;rw [← Ny337.out] at ho6));have HO339:=am (Kd.R_lower ho6 (below_size qq124));replace BK336:=am qq308;replace HB:=am (below_step qq124 hb);clear hb ho6)))
 (try simp only [Act.put,sA,s0,s1])
 go_cut [21] (fun v21 wc => ∃ (kq : Nat) (x21_2 : Bool),v21 = .bool x21_2 ∧ Aside0 (spec_l4Near.j0 kq a1 y337 x21_2 a0_0 a0_1 l0_2 = some r) ∧ Aside0 (kq ≤ k) ∧ Aside0 (Kd.R (Kd.int .i64) 3 wc w.heap.size (fun _ => True) v338 y337) ∧ Aside0 (wc.heap[gb336]? = some (.cells #[.int .i64 a0_0,.int .i64 a0_1,(.slice A0_2 l0_2.length c0_2)] 26 (0,0))) ∧ Aside0 (Below w.heap.size w wc))
 case first =>
  have H:=HC3.out;clear HC3
  by_cases c7 : a1 ≥ a0_0
  ·rw [if_pos c7] at H;have c7b0 : decide (a0_0 ≤ a1) = true:=decide_eq_true c7;clear c7;(first | rw [c7b0] | (simp only [i64_w,i32_w];rw [c7b0]) | skip);obtain ⟨ji8,hji8⟩ : ∃ j_ : Int,(wrap64 (a1 - a0_0)) = j_:=⟨_,rfl⟩
   replace H : (if 0 ≤ (ji8) then (if (ji8) < (l0_2.length : Int) then (spec_l4Near.j0 k a1 y337 ((rd l0_2 (ji8)) != 2) a0_0 a0_1 l0_2) else (none)) else (none)) = some r:=by first | (rw [hji8] at H;exact H) | (simp only [hji8] at H ⊢;exact H)
   have hji8w : (IntKind.i64.wrap (a1 - a0_0)) = ji8:=(i64_w _).trans hji8
   by_cases c9 : 0 ≤ (ji8)
   ·rw [if_pos c9] at H;have c9b0 : decide (0 ≤ (ji8)) = true:=decide_eq_true c9;clear c9
    by_cases c10 : (ji8) < (l0_2.length : Int)
    ·rw [if_pos c10] at H;have c10b0 : decide ((ji8) < (l0_2.length : Int)) = true:=decide_eq_true c10;clear c10;have H':=am H;clear H;obtain ⟨hcz11_0,hcz11_1,hcz11_2,hfz11_0,hfz11_1,hfz11_2⟩:=bcl3 BK336.out;have p340 : 0 ≤ ((ji8) : Int):=odt qq258;have q340 : (ji8) < (l0_2.length : Int):=odt qq258;obtain ⟨ad340,e340,hx340_0⟩:=Kd.at_int HR0_2.out (ji8) p340 q340
     cases e340
     replace hx340_0:=(ct HB.out hx340_0 :)
     replace p340:=eq_true p340;replace q340:=eq_true q340;go_wp2
     repeat (go_quiet (fail);try go_wp2)
     go_meet
     case rel => exact ⟨_,(((rd l0_2 (ji8)) != 2)),(by first | rfl | (simp;done) | (simp only [← hji8] <;> (first | rfl | simp)) | (simp [*];done)),H',⟨qq265⟩,⟨qq239⟩,⟨qq196⟩,⟨qq124⟩⟩
    ·rw [if_neg c10] at H;exact absurd H (by simp)
   ·rw [if_neg c9] at H;exact absurd H (by simp)
  ·rw [if_neg c7] at H;have c7b0 : decide (a0_0 ≤ a1) = false:=decide_eq_false c7;clear c7;(first | rw [c7b0] | (simp only [i64_w,i32_w];rw [c7b0]) | skip);have H':=am H;clear H;obtain ⟨hcz12_0,hcz12_1,hcz12_2,hfz12_0,hfz12_1,hfz12_2⟩:=bcl3 BK336.out;go_wp2
   repeat (go_quiet (fail);try go_wp2)
   go_meet
   case rel => exact ⟨_,(false),qq260,H',⟨qq265⟩,⟨qq239⟩,⟨qq196⟩,⟨qq124⟩⟩
 case rest =>
  clear HC3
  try clear c1
  try clear p2
  try clear p3
  try clear q3
  try clear hx3
  try clear c4
  try clear p6
  try clear c7
  try clear c7b0
  try clear c9
  try clear c9b0
  try clear c10
  try clear c10b0
  try clear hcz11_0
  try clear hcz11_1
  try clear hcz11_2
  try clear hcz12_0
  try clear hcz12_1
  try clear hcz12_2
  try clear hfz11_0
  try clear hfz11_1
  try clear hfz11_2
  try clear hfz12_0
  try clear hfz12_1
  try clear hfz12_2
  try clear hx340_0
  try clear p340
  try clear q340
  obtain ⟨kq,x21_2,rfl,HA,HJ2,HO_5,BK336,HB⟩:=hcut
  cases kq with
  | zero => exact absurd HA.out (by simp [spec_l4Near.j0])
  | succ kj2 =>
   have H:=HA.out;clear HA;simp only [spec_l4Near.j0] at H;have HC13:=am H;clear H
   go_upto_if 21 with (fail)
   repeat (go_quiet (fail);go_upto_if 21 with (fail))
   go_cut [5] (fun v5 wc => ∃ (kq : Nat) (x5_12 : List Int),Aside0 (spec_l4Near.j1 kq a1 x5_12 a0_0 a0_1 l0_2 = some r) ∧ Aside0 (kq ≤ kj2) ∧ Aside0 (Kd.R (Kd.int .i64) 3 wc w.heap.size (fun _ => True) v5 x5_12) ∧ Aside0 (wc.heap[gb336]? = some (.cells #[.int .i64 a0_0,.int .i64 a0_1,(.slice A0_2 l0_2.length c0_2)] 26 (0,0))) ∧ Aside0 (Below w.heap.size w wc))
   case first =>
    have H:=HC13.out;clear HC13
    by_cases c14 : x21_2 = true
    ·subst c14;have H1 : (if y337.length < 17592186044416 then (spec_l4Near.j1 kj2 a1 (y337 ++ [wrap64 (a1 - a0_0)]) a0_0 a0_1 l0_2) else (none)) = some r:=by rw [if_pos rfl] at H;exact H
     clear H;have H:=H1;clear H1
     by_cases c15 : y337.length < 17592186044416
     ·rw [if_pos c15] at H;have LMc15:=am c15;clear c15;obtain ⟨y341,hy341⟩ : ∃ y_ : List Int,y_ = (y337 ++ [wrap64 (a1 - a0_0)]):=⟨_,rfl⟩
      replace H : (spec_l4Near.j1 kj2 a1 y341 a0_0 a0_1 l0_2) = some r:=by first | (rw [hy341];with_reducible exact H) | (have H2_:=(Option.bind_some _ _).symm.trans H;rw [hy341];with_reducible exact H2_) | (have H2_:=(Option.bind_some _ _).symm.trans H;with_reducible exact H2_) | with_reducible exact H | (rw [hy341];exact H) | exact H
      have Ny341:=am hy341;clear hy341;have H':=am H;clear H;obtain ⟨hcz16_0,hcz16_1,hcz16_2,hfz16_0,hfz16_1,hfz16_2⟩:=bcl3 BK336.out;go_wp2_with (first | ((with_reducible refine gate_builtin (b:=.append) (xs:=#[.tmp 22,.tmp 27]) rfl ?_);at_builtin;refine Kd.R_append (Kd.int .i64) (w0:=w) w.heap.size rfl (.tmp 22) (.tmp 27) 24 3 (.int .i64 0) 8 rfl Try.underlying24 info3 rfl (by decide) (by omega) v338 y337 (wrap64 (a1 - a0_0)) [.int .i64 (wrap64 (a1 - a0_0))] (fun _ => True) (fun _ => False) rfl rfl ?aP (fun _ hk => hk.elim) ?aF ?aO ?aB ?aS ?aL ?_;(case aP => exact rfl);(case aB => exact qq100);(case aF => exact qq272);(case aO => exact qq220);(case aS => exact qq79);(case aL => have:=LMc15.out;omega);intro v342 w17 ho hb hg hat;rw [← Ny341.out] at ho;replace BK336:=am qq285;replace HB:=am (hb);have HO343:=am (ho);clear HO_5;clear ho hb hg hat))
      repeat (go_quiet (first | ((with_reducible refine gate_builtin (b:=.append) (xs:=#[.tmp 22,.tmp 27]) rfl ?_);at_builtin;refine Kd.R_append (Kd.int .i64) (w0:=w) w.heap.size rfl (.tmp 22) (.tmp 27) 24 3 (.int .i64 0) 8 rfl Try.underlying24 info3 rfl (by decide) (by omega) v338 y337 (wrap64 (a1 - a0_0)) [.int .i64 (wrap64 (a1 - a0_0))] (fun _ => True) (fun _ => False) rfl rfl ?aP (fun _ hk => hk.elim) ?aF ?aO ?aB ?aS ?aL ?_;(case aP => exact rfl);(case aB => exact qq100);(case aF => exact qq272);(case aO => exact qq220);(case aS => exact qq79);(case aL => have:=LMc15.out;omega);intro v342 w17 ho hb hg hat;rw [← Ny341.out] at ho;replace BK336:=am qq285;replace HB:=am (hb);have HO343:=am (ho);clear HO_5;clear ho hb hg hat));try go_wp2_with (first | ((with_reducible refine gate_builtin (b:=.append) (xs:=#[.tmp 22,.tmp 27]) rfl ?_);at_builtin;refine Kd.R_append (Kd.int .i64) (w0:=w) w.heap.size rfl (.tmp 22) (.tmp 27) 24 3 (.int .i64 0) 8 rfl Try.underlying24 info3 rfl (by decide) (by omega) v338 y337 (wrap64 (a1 - a0_0)) [.int .i64 (wrap64 (a1 - a0_0))] (fun _ => True) (fun _ => False) rfl rfl ?aP (fun _ hk => hk.elim) ?aF ?aO ?aB ?aS ?aL ?_;(case aP => exact rfl);(case aB => exact qq100);(case aF => exact qq272);(case aO => exact qq220);(case aS => exact qq79);(case aL => have:=LMc15.out;omega);intro v342 w17 ho hb hg hat;rw [← Ny341.out] at ho;replace BK336:=am qq285;replace HB:=am (hb);have HO343:=am (ho);clear HO_5;clear ho hb hg hat)))
      go_meet
      case rel => exact ⟨_,(y341),H',⟨by have:=HJ2.out;first | omega | exact Nat.le_refl _⟩,⟨by (with_reducible repeat (first | apply kA | apply kN | apply kD));exact HO343.out⟩,⟨qq196⟩,⟨qq124⟩⟩
     ·rw [if_neg c15] at H;exact absurd H (by simp)
    ·replace c14:=Bool.eq_false_iff.mpr c14;subst c14;have H1 : (spec_l4Near.j1 kj2 a1 y337 a0_0 a0_1 l0_2) = some r:=by rw [if_neg (show ¬ (false = true) by decide)] at H;exact H
     clear H;have H:=H1;clear H1;have H':=am H;clear H;go_wp2
     repeat (go_quiet (fail);try go_wp2)
     go_meet
     case rel => exact ⟨_,(y337),H',⟨by have:=HJ2.out;first | omega | exact Nat.le_refl _⟩,⟨qq251⟩,⟨qq196⟩,⟨qq124⟩⟩
   case rest =>
    clear HC13
    try clear c1
    try clear p2
    try clear p3
    try clear q3
    try clear hx3
    try clear c4
    try clear p6
    try clear c7
    try clear c7b0
    try clear c9
    try clear c9b0
    try clear c10
    try clear c10b0
    try clear c14
    try clear c15
    try clear hcz11_0
    try clear hcz11_1
    try clear hcz11_2
    try clear hcz12_0
    try clear hcz12_1
    try clear hcz12_2
    try clear hcz16_0
    try clear hcz16_1
    try clear hcz16_2
    try clear hfz11_0
    try clear hfz11_1
    try clear hfz11_2
    try clear hfz12_0
    try clear hfz12_1
    try clear hfz12_2
    try clear hfz16_0
    try clear hfz16_1
    try clear hfz16_2
    try clear hx340_0
    try clear p2
    try clear p3
    try clear p340
    try clear p6
    try clear q3
    try clear q340
    obtain ⟨kq,x5_12,HA,HJ12,HO_5,BK336,HB⟩:=hcut
    cases kq with
    | zero => exact absurd HA.out (by simp [spec_l4Near.j1])
    | succ kj12 =>
     have H:=HA.out;clear HA;simp only [spec_l4Near.j1] at H;have HC18:=am H;clear H
     go_upto_region 4 with (fail)
     repeat (go_quiet (fail);go_upto_region 4 with (fail))
     go_cut [42] (fun v42 wc => ∃ (kq : Nat) (x42_17 : Bool),v42 = .bool x42_17 ∧ Aside0 (spec_l4Near.j2 kq a1 x5_12 x42_17 a0_0 a0_1 l0_2 = some r) ∧ Aside0 (kq ≤ kj12) ∧ Aside0 (Kd.R (Kd.int .i64) 3 wc w.heap.size (fun _ => True) u5 x5_12) ∧ Aside0 (wc.heap[gb336]? = some (.cells #[.int .i64 a0_0,.int .i64 a0_1,(.slice A0_2 l0_2.length c0_2)] 26 (0,0))) ∧ Aside0 (Below w.heap.size w wc))
     case first =>
      have H:=HC18.out;clear HC18
      by_cases c19 : a0_0 = 0
      ·rw [if_pos c19] at H;exact absurd H (by simp)
      ·rw [if_neg c19] at H;have c19b0 : (a0_0 == 0) = false:=beq_eq_false_iff_ne.mpr c19;have c19b1 : (a0_0 != 0) = true:=bne_iff_ne.mpr c19;(first | rw [c19b0] | (simp only [i64_w,i32_w];rw [c19b0]) | skip)
       by_cases c20 : (Int.tmod a1 a0_0) > 0
       ·rw [if_pos c20] at H;have c20b0 : decide (0 < (Int.tmod a1 a0_0)) = true:=decide_eq_true c20;clear c20;obtain ⟨ji21,hji21⟩ : ∃ j_ : Int,(wrap64 (a1 - 1)) = j_:=⟨_,rfl⟩
        replace H : (if 0 ≤ (ji21) then (if (ji21) < (l0_2.length : Int) then (spec_l4Near.j2 kj12 a1 x5_12 ((rd l0_2 (ji21)) != 2) a0_0 a0_1 l0_2) else (none)) else (none)) = some r:=by first | (rw [hji21] at H;exact H) | (simp only [hji21] at H ⊢;exact H)
        have hji21w : (IntKind.i64.wrap (a1 - 1)) = ji21:=(i64_w _).trans hji21
        by_cases c22 : 0 ≤ (ji21)
        ·rw [if_pos c22] at H;have c22b0 : decide (0 ≤ (ji21)) = true:=decide_eq_true c22;clear c22
         by_cases c23 : (ji21) < (l0_2.length : Int)
         ·rw [if_pos c23] at H;have c23b0 : decide ((ji21) < (l0_2.length : Int)) = true:=decide_eq_true c23;clear c23;have H':=am H;clear H;obtain ⟨hcz24_0,hcz24_1,hcz24_2,hfz24_0,hfz24_1,hfz24_2⟩:=bcl3 BK336.out;have p344 : 0 ≤ ((ji21) : Int):=odt qq258;have q344 : (ji21) < (l0_2.length : Int):=odt qq258;obtain ⟨ad344,e344,hx344_0⟩:=Kd.at_int HR0_2.out (ji21) p344 q344
          cases e344
          replace hx344_0:=(ct HB.out hx344_0 :)
          replace p344:=eq_true p344;replace q344:=eq_true q344;go_wp2
          repeat (go_quiet (fail);try go_wp2)
          go_meet
          case rel => exact ⟨_,(((rd l0_2 (ji21)) != 2)),(by first | rfl | (simp;done) | (simp only [← hji21] <;> (first | rfl | simp)) | (simp [*];done)),H',⟨qq254⟩,⟨qq251⟩,⟨qq196⟩,⟨qq124⟩⟩
         ·rw [if_neg c23] at H;exact absurd H (by simp)
        ·rw [if_neg c22] at H;exact absurd H (by simp)
       ·rw [if_neg c20] at H;have c20b0 : decide (0 < (Int.tmod a1 a0_0)) = false:=decide_eq_false c20;clear c20;have H':=am H;clear H;obtain ⟨hcz25_0,hcz25_1,hcz25_2,hfz25_0,hfz25_1,hfz25_2⟩:=bcl3 BK336.out;go_wp2
        repeat (go_quiet (fail);try go_wp2)
        go_meet
        case rel => exact ⟨_,(false),qq260,H',⟨qq254⟩,⟨qq251⟩,⟨qq196⟩,⟨qq124⟩⟩
     case rest =>
      clear HC18
      try clear c1
      try clear c2
      try clear p2
      try clear p3
      try clear q3
      try clear hx3
      try clear c4
      try clear p6
      try clear c7
      try clear c7b0
      try clear c9
      try clear c9b0
      try clear c10
      try clear c10b0
      try clear c14
      try clear c15
      try clear c19
      try clear c19b0
      try clear c19b1
      try clear c20
      try clear c20b0
      try clear c22
      try clear c22b0
      try clear c23
      try clear c23b0
      try clear hcz11_0
      try clear hcz11_1
      try clear hcz11_2
      try clear hcz12_0
      try clear hcz12_1
      try clear hcz12_2
      try clear hcz16_0
      try clear hcz16_1
      try clear hcz16_2
      try clear hcz24_0
      try clear hcz24_1
      try clear hcz24_2
      try clear hcz25_0
      try clear hcz25_1
      try clear hcz25_2
      try clear hfz11_0
      try clear hfz11_1
      try clear hfz11_2
      try clear hfz12_0
      try clear hfz12_1
      try clear hfz12_2
      try clear hfz16_0
      try clear hfz16_1
      try clear hfz16_2
      try clear hfz24_0
      try clear hfz24_1
      try clear hfz24_2
      try clear hfz25_0
      try clear hfz25_1
      try clear hfz25_2
      try clear hx340_0
      try clear hx344_0
      try clear p2
      try clear p3
      try clear p340
      try clear p344
      try clear p6
      try clear q3
      try clear q340
      try clear q344
      obtain ⟨kq,x42_17,rfl,HA,HJ17,HO_5,BK336,HB⟩:=hcut
      cases kq with
      | zero => exact absurd HA.out (by simp [spec_l4Near.j2])
      | succ kj17 =>
       have H:=HA.out;clear HA;simp only [spec_l4Near.j2] at H;have HC26:=am H;clear H
       go_upto_if 42 with (fail)
       repeat (go_quiet (fail);go_upto_if 42 with (fail))
       go_cut [5] (fun v5 wc => ∃ (kq : Nat) (x5_25 : List Int),Aside0 (spec_l4Near.j3 kq a1 x5_25 a0_0 a0_1 l0_2 = some r) ∧ Aside0 (kq ≤ kj17) ∧ Aside0 (Kd.R (Kd.int .i64) 3 wc w.heap.size (fun _ => True) v5 x5_25) ∧ Aside0 (wc.heap[gb336]? = some (.cells #[.int .i64 a0_0,.int .i64 a0_1,(.slice A0_2 l0_2.length c0_2)] 26 (0,0))) ∧ Aside0 (Below w.heap.size w wc))
       case first =>
        have H:=HC26.out;clear HC26
        by_cases c27 : x42_17 = true
        ·subst c27;have H1 : (if x5_12.length < 17592186044416 then (spec_l4Near.j3 kj17 a1 (x5_12 ++ [wrap64 (a1 - 1)]) a0_0 a0_1 l0_2) else (none)) = some r:=by rw [if_pos rfl] at H;exact H
         clear H;have H:=H1;clear H1
         by_cases c28 : x5_12.length < 17592186044416
         ·rw [if_pos c28] at H;have LMc28:=am c28;clear c28;obtain ⟨y345,hy345⟩ : ∃ y_ : List Int,y_ = (x5_12 ++ [wrap64 (a1 - 1)]):=⟨_,rfl⟩
          replace H : (spec_l4Near.j3 kj17 a1 y345 a0_0 a0_1 l0_2) = some r:=by first | (rw [hy345];with_reducible exact H) | (have H2_:=(Option.bind_some _ _).symm.trans H;rw [hy345];with_reducible exact H2_) | (have H2_:=(Option.bind_some _ _).symm.trans H;with_reducible exact H2_) | with_reducible exact H | (rw [hy345];exact H) | exact H
          have Ny345:=am hy345;clear hy345;have H':=am H;clear H;go_wp2_with (first | ((with_reducible refine gate_builtin (b:=.append) (xs:=#[.tmp 43,.tmp 46]) rfl ?_);at_builtin;refine Kd.R_append (Kd.int .i64) (w0:=w) w.heap.size rfl (.tmp 43) (.tmp 46) 24 3 (.int .i64 0) 8 rfl Try.underlying24 info3 rfl (by decide) (by omega) u5 x5_12 (wrap64 (a1 - 1)) [.int .i64 (wrap64 (a1 - 1))] (fun _ => True) (fun _ => False) rfl rfl ?aP (fun _ hk => hk.elim) ?aF ?aO ?aB ?aS ?aL ?_;(case aP => exact rfl);(case aB => exact qq100);(case aF => exact qq272);(case aO => exact qq220);(case aS => exact qq79);(case aL => have:=LMc28.out;omega);intro v346 w29 ho hb hg hat;rw [← Ny345.out] at ho;replace BK336:=am qq285;replace HB:=am (hb);have HO347:=am (ho);clear HO_5;clear ho hb hg hat))
          repeat (go_quiet (first | ((with_reducible refine gate_builtin (b:=.append) (xs:=#[.tmp 43,.tmp 46]) rfl ?_);at_builtin;refine Kd.R_append (Kd.int .i64) (w0:=w) w.heap.size rfl (.tmp 43) (.tmp 46) 24 3 (.int .i64 0) 8 rfl Try.underlying24 info3 rfl (by decide) (by omega) u5 x5_12 (wrap64 (a1 - 1)) [.int .i64 (wrap64 (a1 - 1))] (fun _ => True) (fun _ => False) rfl rfl ?aP (fun _ hk => hk.elim) ?aF ?aO ?aB ?aS ?aL ?_;(case aP => exact rfl);(case aB => exact qq100);(case aF => exact qq272);(case aO => exact qq220);(case aS => exact qq79);(case aL => have:=LMc28.out;omega);intro v346 w29 ho hb hg hat;rw [← Ny345.out] at ho;replace BK336:=am qq285;replace HB:=am (hb);have HO347:=am (ho);clear HO_5;clear ho hb hg hat));try go_wp2_with (first | ((with_reducible refine gate_builtin (b:=.append) (xs:=#[.tmp 43,.tmp 46]) rfl ?_);at_builtin;refine Kd.R_append (Kd.int .i64) (w0:=w) w.heap.size rfl (.tmp 43) (.tmp 46) 24 3 (.int .i64 0) 8 rfl Try.underlying24 info3 rfl (by decide) (by omega) u5 x5_12 (wrap64 (a1 - 1)) [.int .i64 (wrap64 (a1 - 1))] (fun _ => True) (fun _ => False) rfl rfl ?aP (fun _ hk => hk.elim) ?aF ?aO ?aB ?aS ?aL ?_;(case aP => exact rfl);(case aB => exact qq100);(case aF => exact qq272);(case aO => exact qq220);(case aS => exact qq79);(case aL => have:=LMc28.out;omega);intro v346 w29 ho hb hg hat;rw [← Ny345.out] at ho;replace BK336:=am qq285;replace HB:=am (hb);have HO347:=am (ho);clear HO_5;clear ho hb hg hat)))
          go_meet
          case rel => exact ⟨_,(y345),H',⟨qq246⟩,⟨by (with_reducible repeat (first | apply kA | apply kN | apply kD));exact HO347.out⟩,⟨qq196⟩,⟨qq124⟩⟩
         ·rw [if_neg c28] at H;exact absurd H (by simp)
        ·replace c27:=Bool.eq_false_iff.mpr c27;subst c27;have H1 : (spec_l4Near.j3 kj17 a1 x5_12 a0_0 a0_1 l0_2) = some r:=by rw [if_neg (show ¬ (false = true) by decide)] at H;exact H
         clear H;have H:=H1;clear H1;have H':=am H;clear H;go_wp2
         repeat (go_quiet (fail);try go_wp2)
         go_meet
         case rel => exact ⟨_,(x5_12),H',⟨qq246⟩,⟨qq251⟩,⟨qq196⟩,⟨qq124⟩⟩
       case rest =>
        clear HC26
        try clear c1
        try clear c2
        try clear p2
        try clear p3
        try clear q3
        try clear hx3
        try clear c4
        try clear p6
        try clear c7
        try clear c7b0
        try clear c9
        try clear c9b0
        try clear c10
        try clear c10b0
        try clear c14
        try clear c15
        try clear c19
        try clear c19b0
        try clear c19b1
        try clear c20
        try clear c20b0
        try clear c22
        try clear c22b0
        try clear c23
        try clear c23b0
        try clear c27
        try clear c28
        try clear hcz11_0
        try clear hcz11_1
        try clear hcz11_2
        try clear hcz12_0
        try clear hcz12_1
        try clear hcz12_2
        try clear hcz16_0
        try clear hcz16_1
        try clear hcz16_2
        try clear hcz24_0
        try clear hcz24_1
        try clear hcz24_2
        try clear hcz25_0
        try clear hcz25_1
        try clear hcz25_2
        try clear hfz11_0
        try clear hfz11_1
        try clear hfz11_2
        try clear hfz12_0
        try clear hfz12_1
        try clear hfz12_2
        try clear hfz16_0
        try clear hfz16_1
        try clear hfz16_2
        try clear hfz24_0
        try clear hfz24_1
        try clear hfz24_2
        try clear hfz25_0
        try clear hfz25_1
        try clear hfz25_2
        try clear hx340_0
        try clear hx344_0
        try clear p2
        try clear p3
        try clear p340
        try clear p344
        try clear p6
        try clear q3
        try clear q340
        try clear q344
        obtain ⟨kq,x5_25,HA,HJ25,HO_5,BK336,HB⟩:=hcut
        cases kq with
        | zero => exact absurd HA.out (by simp [spec_l4Near.j3])
        | succ kj25 =>
         have H:=HA.out;clear HA;simp only [spec_l4Near.j3] at H;have HC30:=am H;clear H
         go_upto_region 6 with (fail)
         repeat (go_quiet (fail);go_upto_region 6 with (fail))
         go_cut [64] (fun v64 wc => ∃ (kq : Nat) (x64_29 : Bool),v64 = .bool x64_29 ∧ Aside0 (spec_l4Near.j4 kq a1 x5_25 x64_29 a0_0 a0_1 l0_2 = some r) ∧ Aside0 (kq ≤ kj25) ∧ Aside0 (Kd.R (Kd.int .i64) 3 wc w.heap.size (fun _ => True) u5 x5_25) ∧ Aside0 (wc.heap[gb336]? = some (.cells #[.int .i64 a0_0,.int .i64 a0_1,(.slice A0_2 l0_2.length c0_2)] 26 (0,0))) ∧ Aside0 (Below w.heap.size w wc))
         case first =>
          have H:=HC30.out;clear HC30
          by_cases c31 : a0_0 = 0
          ·rw [if_pos c31] at H;exact absurd H (by simp)
          ·rw [if_neg c31] at H;have c31b0 : (a0_0 == 0) = false:=beq_eq_false_iff_ne.mpr c31;have c31b1 : (a0_0 != 0) = true:=bne_iff_ne.mpr c31;(first | rw [c31b0] | (simp only [i64_w,i32_w];rw [c31b0]) | skip)
           by_cases c32 : (Int.tmod a1 a0_0) < (wrap64 (a0_0 - 1))
           ·rw [if_pos c32] at H;have c32b0 : decide ((Int.tmod a1 a0_0) < (wrap64 (a0_0 - 1))) = true:=decide_eq_true c32;clear c32;obtain ⟨ji33,hji33⟩ : ∃ j_ : Int,(wrap64 (a1 + 1)) = j_:=⟨_,rfl⟩
            replace H : (if 0 ≤ (ji33) then (if (ji33) < (l0_2.length : Int) then (spec_l4Near.j4 kj25 a1 x5_25 ((rd l0_2 (ji33)) != 2) a0_0 a0_1 l0_2) else (none)) else (none)) = some r:=by first | (rw [hji33] at H;exact H) | (simp only [hji33] at H ⊢;exact H)
            have hji33w : (IntKind.i64.wrap (a1 + 1)) = ji33:=(i64_w _).trans hji33
            by_cases c34 : 0 ≤ (ji33)
            ·rw [if_pos c34] at H;have c34b0 : decide (0 ≤ (ji33)) = true:=decide_eq_true c34;clear c34
             by_cases c35 : (ji33) < (l0_2.length : Int)
             ·rw [if_pos c35] at H;have c35b0 : decide ((ji33) < (l0_2.length : Int)) = true:=decide_eq_true c35;clear c35;have H':=am H;clear H;obtain ⟨hcz36_0,hcz36_1,hcz36_2,hfz36_0,hfz36_1,hfz36_2⟩:=bcl3 BK336.out;have p348 : 0 ≤ ((ji33) : Int):=odt qq258;have q348 : (ji33) < (l0_2.length : Int):=odt qq258;obtain ⟨ad348,e348,hx348_0⟩:=Kd.at_int HR0_2.out (ji33) p348 q348
              cases e348
              replace hx348_0:=(ct HB.out hx348_0 :)
              replace p348:=eq_true p348;replace q348:=eq_true q348;go_wp2
              repeat (go_quiet (fail);try go_wp2)
              go_meet
              case rel => exact ⟨_,(((rd l0_2 (ji33)) != 2)),(by first | rfl | (simp;done) | (simp only [← hji33] <;> (first | rfl | simp)) | (simp [*];done)),H',⟨qq215⟩,⟨qq251⟩,⟨qq196⟩,⟨qq124⟩⟩
             ·rw [if_neg c35] at H;exact absurd H (by simp)
            ·rw [if_neg c34] at H;exact absurd H (by simp)
           ·rw [if_neg c32] at H;have c32b0 : decide ((Int.tmod a1 a0_0) < (wrap64 (a0_0 - 1))) = false:=decide_eq_false c32;clear c32;have H':=am H;clear H;obtain ⟨hcz37_0,hcz37_1,hcz37_2,hfz37_0,hfz37_1,hfz37_2⟩:=bcl3 BK336.out;go_wp2
            repeat (go_quiet (fail);try go_wp2)
            go_meet
            case rel => exact ⟨_,(false),qq260,H',⟨qq215⟩,⟨qq251⟩,⟨qq196⟩,⟨qq124⟩⟩
         case rest =>
          clear HC30
          try clear c1
          try clear c2
          try clear p2
          try clear c3
          try clear p3
          try clear q3
          try clear hx3
          try clear c4
          try clear p6
          try clear c7
          try clear c7b0
          try clear c9
          try clear c9b0
          try clear c10
          try clear c10b0
          try clear c14
          try clear c15
          try clear c19
          try clear c19b0
          try clear c19b1
          try clear c20
          try clear c20b0
          try clear c22
          try clear c22b0
          try clear c23
          try clear c23b0
          try clear c27
          try clear c28
          try clear c31
          try clear c31b0
          try clear c31b1
          try clear c32
          try clear c32b0
          try clear c34
          try clear c34b0
          try clear p34
          try clear q34
          try clear hx34
          try clear c35
          try clear c35b0
          try clear hcz11_0
          try clear hcz11_1
          try clear hcz11_2
          try clear hcz12_0
          try clear hcz12_1
          try clear hcz12_2
          try clear hcz16_0
          try clear hcz16_1
          try clear hcz16_2
          try clear hcz24_0
          try clear hcz24_1
          try clear hcz24_2
          try clear hcz25_0
          try clear hcz25_1
          try clear hcz25_2
          try clear hcz36_0
          try clear hcz36_1
          try clear hcz36_2
          try clear hcz37_0
          try clear hcz37_1
          try clear hcz37_2
          try clear hfz11_0
          try clear hfz11_1
          try clear hfz11_2
          try clear hfz12_0
          try clear hfz12_1
          try clear hfz12_2
          try clear hfz16_0
          try clear hfz16_1
          try clear hfz16_2
          try clear hfz24_0
          try clear hfz24_1
          try clear hfz24_2
          try clear hfz25_0
          try clear hfz25_1
          try clear hfz25_2
          try clear hfz36_0
          try clear hfz36_1
          try clear hfz36_2
          try clear hfz37_0
          try clear hfz37_1
          try clear hfz37_2
          try clear hx340_0
          try clear hx344_0
          try clear hx348_0
          try clear p2
          try clear p3
          try clear p340
          try clear p344
          try clear p348
          try clear p6
          try clear q3
          try clear q340
          try clear q344
          try clear q348
          obtain ⟨kq,x64_29,rfl,HA,HJ29,HO_5,BK336,HB⟩:=hcut
          cases kq with
          | zero => exact absurd HA.out (by simp [spec_l4Near.j4])
          | succ kj29 =>
           have H:=HA.out;clear HA;simp only [spec_l4Near.j4] at H
           by_cases c38 : x64_29 = true
           ·subst c38;have H1 : (if x5_25.length < 17592186044416 then ((some (x5_25 ++ [wrap64 (a1 + 1)] : List Int)).bind fun y349 => (if (wrap64 (a1 + a0_0)) < (l0_2.length : Int) then (if 0 ≤ (wrap64 (a1 + a0_0)) then (if (rd l0_2 (wrap64 (a1 + a0_0))) = 2 then (some y349) else (if y349.length < 17592186044416 then (some (y349 ++ [wrap64 (a1 + a0_0)])) else (none))) else (none)) else (some y349))) else (none)) = some r:=by rw [if_pos rfl] at H;exact H
            clear H;have H:=H1;clear H1
            by_cases c39 : x5_25.length < 17592186044416
            ·rw [if_pos c39] at H;have LMc39:=am c39;clear c39;obtain ⟨y349,hy349⟩ : ∃ y_ : List Int,y_ = (x5_25 ++ [wrap64 (a1 + 1)]):=⟨_,rfl⟩
             replace H : (if (wrap64 (a1 + a0_0)) < (l0_2.length : Int) then (if 0 ≤ (wrap64 (a1 + a0_0)) then (if (rd l0_2 (wrap64 (a1 + a0_0))) = 2 then (some y349) else (if y349.length < 17592186044416 then (some (y349 ++ [wrap64 (a1 + a0_0)])) else (none))) else (none)) else (some y349)) = some r:=by first | (rw [hy349];with_reducible exact H) | (have H2_:=(Option.bind_some _ _).symm.trans H;rw [hy349];with_reducible exact H2_) | (have H2_:=(Option.bind_some _ _).symm.trans H;with_reducible exact H2_) | with_reducible exact H | (rw [hy349];exact H) | exact H
             have Ny349:=am hy349;clear hy349
             by_cases c40 : (wrap64 (a1 + a0_0)) < (l0_2.length : Int)
             ·rw [if_pos c40] at H;have c40b0 : decide ((wrap64 (a1 + a0_0)) < (l0_2.length : Int)) = true:=decide_eq_true c40;clear c40;obtain ⟨ji41,hji41⟩ : ∃ j_ : Int,(wrap64 (a1 + a0_0)) = j_:=⟨_,rfl⟩
              replace H : (if 0 ≤ (ji41) then (if (rd l0_2 (ji41)) = 2 then (some y349) else (if y349.length < 17592186044416 then (some (y349 ++ [ji41])) else (none))) else (none)) = some r:=by first | (rw [hji41] at H;exact H) | (simp only [hji41] at H ⊢;exact H)
              (try rw [hji41] at c40b0);have hji41w : (IntKind.i64.wrap (a1 + a0_0)) = ji41:=(i64_w _).trans hji41
              by_cases c42 : 0 ≤ (ji41)
              ·rw [if_pos c42] at H;have c42b0 : decide (0 ≤ (ji41)) = true:=decide_eq_true c42;clear c42
               by_cases c43 : (rd l0_2 (ji41)) = 2
               ·rw [if_pos c43] at H;have c43b0 : ((rd l0_2 (ji41)) == 2) = true:=beq_iff_eq.mpr c43;have c43b1 : ((rd l0_2 (ji41)) != 2) = false:=bne_eq_false_iff_eq.mpr c43;clear c43;obtain rfl:=Option.some.inj H;go_wp2_with (first | ((with_reducible refine gate_builtin (b:=.append) (xs:=#[.tmp 65,.tmp 68]) rfl ?_);at_builtin;refine Kd.R_append (Kd.int .i64) (w0:=w) w.heap.size rfl (.tmp 65) (.tmp 68) 24 3 (.int .i64 0) 8 rfl Try.underlying24 info3 rfl (by decide) (by omega) u5 x5_25 (wrap64 (a1 + 1)) [.int .i64 (wrap64 (a1 + 1))] (fun _ => True) (fun _ => False) rfl rfl ?aP (fun _ hk => hk.elim) ?aF ?aO ?aB ?aS ?aL ?_;(case aP => exact rfl);(case aB => exact qq100);(case aF => exact qq272);(case aO => exact qq220);(case aS => exact qq79);(case aL => exact qq273);intro v350 w44 ho hb hg hat;rw [← Ny349.out] at ho;replace BK336:=am qq285;replace HB:=am (hb);have HO351:=am (ho);clear HO_5;clear ho hb hg hat;obtain ⟨hcz45_0,hcz45_1,hcz45_2,hfz45_0,hfz45_1,hfz45_2⟩:=bcl3 BK336.out;have p352 : 0 ≤ ((ji41) : Int):=odt qq258;have q352 : (ji41) < (l0_2.length : Int):=odt qq258;obtain ⟨ad352,e352,hx352_0⟩:=Kd.at_int HR0_2.out (ji41) p352 q352;cases e352;replace hx352_0:=(ct HB.out hx352_0 :);replace p352:=eq_true p352;replace q352:=eq_true q352))
                repeat (go_quiet (first | ((with_reducible refine gate_builtin (b:=.append) (xs:=#[.tmp 65,.tmp 68]) rfl ?_);at_builtin;refine Kd.R_append (Kd.int .i64) (w0:=w) w.heap.size rfl (.tmp 65) (.tmp 68) 24 3 (.int .i64 0) 8 rfl Try.underlying24 info3 rfl (by decide) (by omega) u5 x5_25 (wrap64 (a1 + 1)) [.int .i64 (wrap64 (a1 + 1))] (fun _ => True) (fun _ => False) rfl rfl ?aP (fun _ hk => hk.elim) ?aF ?aO ?aB ?aS ?aL ?_;(case aP => exact rfl);(case aB => exact qq100);(case aF => exact qq272);(case aO => exact qq220);(case aS => exact qq79);(case aL => exact qq273);intro v350 w44 ho hb hg hat;rw [← Ny349.out] at ho;replace BK336:=am qq285;replace HB:=am (hb);have HO351:=am (ho);clear HO_5;clear ho hb hg hat;obtain ⟨hcz45_0,hcz45_1,hcz45_2,hfz45_0,hfz45_1,hfz45_2⟩:=bcl3 BK336.out;have p352 : 0 ≤ ((ji41) : Int):=odt qq258;have q352 : (ji41) < (l0_2.length : Int):=odt qq258;obtain ⟨ad352,e352,hx352_0⟩:=Kd.at_int HR0_2.out (ji41) p352 q352;cases e352;replace hx352_0:=(ct HB.out hx352_0 :);replace p352:=eq_true p352;replace q352:=eq_true q352));try go_wp2_with (first | ((with_reducible refine gate_builtin (b:=.append) (xs:=#[.tmp 65,.tmp 68]) rfl ?_);at_builtin;refine Kd.R_append (Kd.int .i64) (w0:=w) w.heap.size rfl (.tmp 65) (.tmp 68) 24 3 (.int .i64 0) 8 rfl Try.underlying24 info3 rfl (by decide) (by omega) u5 x5_25 (wrap64 (a1 + 1)) [.int .i64 (wrap64 (a1 + 1))] (fun _ => True) (fun _ => False) rfl rfl ?aP (fun _ hk => hk.elim) ?aF ?aO ?aB ?aS ?aL ?_;(case aP => exact rfl);(case aB => exact qq100);(case aF => exact qq272);(case aO => exact qq220);(case aS => exact qq79);(case aL => exact qq273);intro v350 w44 ho hb hg hat;rw [← Ny349.out] at ho;replace BK336:=am qq285;replace HB:=am (hb);have HO351:=am (ho);clear HO_5;clear ho hb hg hat;obtain ⟨hcz45_0,hcz45_1,hcz45_2,hfz45_0,hfz45_1,hfz45_2⟩:=bcl3 BK336.out;have p352 : 0 ≤ ((ji41) : Int):=odt qq258;have q352 : (ji41) < (l0_2.length : Int):=odt qq258;obtain ⟨ad352,e352,hx352_0⟩:=Kd.at_int HR0_2.out (ji41) p352 q352;cases e352;replace hx352_0:=(ct HB.out hx352_0 :);replace p352:=eq_true p352;replace q352:=eq_true q352)))
                go_ret
                exact ⟨_,qq72,qq238,qq124⟩
               ·rw [if_neg c43] at H;have c43b0 : ((rd l0_2 (ji41)) == 2) = false:=beq_eq_false_iff_ne.mpr c43;have c43b1 : ((rd l0_2 (ji41)) != 2) = true:=bne_iff_ne.mpr c43
                by_cases c46 : y349.length < 17592186044416
                ·rw [if_pos c46] at H;have LMc46:=am c46;clear c46;obtain ⟨y353,hy353⟩ : ∃ y_ : List Int,y_ = (y349 ++ [ji41]):=⟨_,rfl⟩
                 replace H : (some y353) = some r:=by first | (rw [hy353];with_reducible exact H) | (have H2_:=(Option.bind_some _ _).symm.trans H;rw [hy353];with_reducible exact H2_) | (have H2_:=(Option.bind_some _ _).symm.trans H;with_reducible exact H2_) | with_reducible exact H | (rw [hy353];exact H) | exact H
                 have Ny353:=am hy353;clear hy353;obtain rfl:=Option.some.inj H;go_wp2_with (first | ((with_reducible refine gate_builtin (b:=.append) (xs:=#[.tmp 65,.tmp 68]) rfl ?_);at_builtin;refine Kd.R_append (Kd.int .i64) (w0:=w) w.heap.size rfl (.tmp 65) (.tmp 68) 24 3 (.int .i64 0) 8 rfl Try.underlying24 info3 rfl (by decide) (by omega) u5 x5_25 (wrap64 (a1 + 1)) [.int .i64 (wrap64 (a1 + 1))] (fun _ => True) (fun _ => False) rfl rfl ?aP (fun _ hk => hk.elim) ?aF ?aO ?aB ?aS ?aL ?_;(case aP => exact rfl);(case aB => exact qq100);(case aF => exact qq272);(case aO => exact qq220);(case aS => exact qq79);(case aL => exact qq273);intro v350 w47 ho hb hg hat;rw [← Ny349.out] at ho;replace BK336:=am qq285;replace HB:=am (hb);have HO351:=am (ho);clear HO_5;clear ho hb hg hat;obtain ⟨hcz48_0,hcz48_1,hcz48_2,hfz48_0,hfz48_1,hfz48_2⟩:=bcl3 BK336.out;have p352 : 0 ≤ ((ji41) : Int):=odt qq258;have q352 : (ji41) < (l0_2.length : Int):=odt qq258;obtain ⟨ad352,e352,hx352_0⟩:=Kd.at_int HR0_2.out (ji41) p352 q352;cases e352;replace hx352_0:=(ct HB.out hx352_0 :);replace p352:=eq_true p352;replace q352:=eq_true q352) | ((with_reducible refine gate_builtin (b:=.append) (xs:=#[.tmp 89,.tmp 94]) rfl ?_);at_builtin;refine Kd.R_append (Kd.int .i64) (w0:=w) w.heap.size rfl (.tmp 89) (.tmp 94) 24 3 (.int .i64 0) 8 rfl Try.underlying24 info3 rfl (by decide) (by omega) v350 y349 ji41 [.int .i64 ji41] (fun _ => True) (fun _ => False) rfl rfl ?aP (fun _ hk => hk.elim) ?aF ?aO ?aB ?aS ?aL ?_;(case aP => exact rfl);(case aB => exact qq100);(case aF => exact qq272);(case aO => exact qq217);(case aS => exact qq79);(case aL => have:=LMc46.out;omega);intro v354 w49 ho hb hg hat;rw [← Ny353.out] at ho;replace BK336:=am qq278;replace HB:=am (hb);have HO355:=am (ho);clear HO351;clear ho hb hg hat))
                 repeat (go_quiet (first | ((with_reducible refine gate_builtin (b:=.append) (xs:=#[.tmp 65,.tmp 68]) rfl ?_);at_builtin;refine Kd.R_append (Kd.int .i64) (w0:=w) w.heap.size rfl (.tmp 65) (.tmp 68) 24 3 (.int .i64 0) 8 rfl Try.underlying24 info3 rfl (by decide) (by omega) u5 x5_25 (wrap64 (a1 + 1)) [.int .i64 (wrap64 (a1 + 1))] (fun _ => True) (fun _ => False) rfl rfl ?aP (fun _ hk => hk.elim) ?aF ?aO ?aB ?aS ?aL ?_;(case aP => exact rfl);(case aB => exact qq100);(case aF => exact qq272);(case aO => exact qq220);(case aS => exact qq79);(case aL => exact qq273);intro v350 w47 ho hb hg hat;rw [← Ny349.out] at ho;replace BK336:=am qq285;replace HB:=am (hb);have HO351:=am (ho);clear HO_5;clear ho hb hg hat;obtain ⟨hcz48_0,hcz48_1,hcz48_2,hfz48_0,hfz48_1,hfz48_2⟩:=bcl3 BK336.out;have p352 : 0 ≤ ((ji41) : Int):=odt qq258;have q352 : (ji41) < (l0_2.length : Int):=odt qq258;obtain ⟨ad352,e352,hx352_0⟩:=Kd.at_int HR0_2.out (ji41) p352 q352;cases e352;replace hx352_0:=(ct HB.out hx352_0 :);replace p352:=eq_true p352;replace q352:=eq_true q352) | ((with_reducible refine gate_builtin (b:=.append) (xs:=#[.tmp 89,.tmp 94]) rfl ?_);at_builtin;refine Kd.R_append (Kd.int .i64) (w0:=w) w.heap.size rfl (.tmp 89) (.tmp 94) 24 3 (.int .i64 0) 8 rfl Try.underlying24 info3 rfl (by decide) (by omega) v350 y349 ji41 [.int .i64 ji41] (fun _ => True) (fun _ => False) rfl rfl ?aP (fun _ hk => hk.elim) ?aF ?aO ?aB ?aS ?aL ?_;(case aP => exact rfl);(case aB => exact qq100);(case aF => exact qq272);(case aO => exact qq217);(case aS => exact qq79);(case aL => have:=LMc46.out;omega);intro v354 w49 ho hb hg hat;rw [← Ny353.out] at ho;replace BK336:=am qq278;replace HB:=am (hb);have HO355:=am (ho);clear HO351;clear ho hb hg hat));try go_wp2_with (first | ((with_reducible refine gate_builtin (b:=.append) (xs:=#[.tmp 65,.tmp 68]) rfl ?_);at_builtin;refine Kd.R_append (Kd.int .i64) (w0:=w) w.heap.size rfl (.tmp 65) (.tmp 68) 24 3 (.int .i64 0) 8 rfl Try.underlying24 info3 rfl (by decide) (by omega) u5 x5_25 (wrap64 (a1 + 1)) [.int .i64 (wrap64 (a1 + 1))] (fun _ => True) (fun _ => False) rfl rfl ?aP (fun _ hk => hk.elim) ?aF ?aO ?aB ?aS ?aL ?_;(case aP => exact rfl);(case aB => exact qq100);(case aF => exact qq272);(case aO => exact qq220);(case aS => exact qq79);(case aL => exact qq273);intro v350 w47 ho hb hg hat;rw [← Ny349.out] at ho;replace BK336:=am qq285;replace HB:=am (hb);have HO351:=am (ho);clear HO_5;clear ho hb hg hat;obtain ⟨hcz48_0,hcz48_1,hcz48_2,hfz48_0,hfz48_1,hfz48_2⟩:=bcl3 BK336.out;have p352 : 0 ≤ ((ji41) : Int):=odt qq258;have q352 : (ji41) < (l0_2.length : Int):=odt qq258;obtain ⟨ad352,e352,hx352_0⟩:=Kd.at_int HR0_2.out (ji41) p352 q352;cases e352;replace hx352_0:=(ct HB.out hx352_0 :);replace p352:=eq_true p352;replace q352:=eq_true q352) | ((with_reducible refine gate_builtin (b:=.append) (xs:=#[.tmp 89,.tmp 94]) rfl ?_);at_builtin;refine Kd.R_append (Kd.int .i64) (w0:=w) w.heap.size rfl (.tmp 89) (.tmp 94) 24 3 (.int .i64 0) 8 rfl Try.underlying24 info3 rfl (by decide) (by omega) v350 y349 ji41 [.int .i64 ji41] (fun _ => True) (fun _ => False) rfl rfl ?aP (fun _ hk => hk.elim) ?aF ?aO ?aB ?aS ?aL ?_;(case aP => exact rfl);(case aB => exact qq100);(case aF => exact qq272);(case aO => exact qq217);(case aS => exact qq79);(case aL => have:=LMc46.out;omega);intro v354 w49 ho hb hg hat;rw [← Ny353.out] at ho;replace BK336:=am qq278;replace HB:=am (hb);have HO355:=am (ho);clear HO351;clear ho hb hg hat)))
                 go_ret
                 exact ⟨_,qq72,by (with_reducible repeat (first | apply kA | apply kN | apply kD));exact HO355.out,qq124⟩
                ·rw [if_neg c46] at H;exact absurd H (by simp)
              ·rw [if_neg c42] at H;exact absurd H (by simp)
             ·rw [if_neg c40] at H;have c40b0 : decide ((wrap64 (a1 + a0_0)) < (l0_2.length : Int)) = false:=decide_eq_false c40;clear c40;obtain rfl:=Option.some.inj H;go_wp2_with (first | ((with_reducible refine gate_builtin (b:=.append) (xs:=#[.tmp 65,.tmp 68]) rfl ?_);at_builtin;refine Kd.R_append (Kd.int .i64) (w0:=w) w.heap.size rfl (.tmp 65) (.tmp 68) 24 3 (.int .i64 0) 8 rfl Try.underlying24 info3 rfl (by decide) (by omega) u5 x5_25 (wrap64 (a1 + 1)) [.int .i64 (wrap64 (a1 + 1))] (fun _ => True) (fun _ => False) rfl rfl ?aP (fun _ hk => hk.elim) ?aF ?aO ?aB ?aS ?aL ?_;(case aP => exact rfl);(case aB => exact qq100);(case aF => exact qq272);(case aO => exact qq220);(case aS => exact qq79);(case aL => exact qq273);intro v350 w50 ho hb hg hat;rw [← Ny349.out] at ho;replace BK336:=am qq285;replace HB:=am (hb);have HO351:=am (ho);clear HO_5;clear ho hb hg hat;obtain ⟨hcz51_0,hcz51_1,hcz51_2,hfz51_0,hfz51_1,hfz51_2⟩:=bcl3 BK336.out))
              repeat (go_quiet (first | ((with_reducible refine gate_builtin (b:=.append) (xs:=#[.tmp 65,.tmp 68]) rfl ?_);at_builtin;refine Kd.R_append (Kd.int .i64) (w0:=w) w.heap.size rfl (.tmp 65) (.tmp 68) 24 3 (.int .i64 0) 8 rfl Try.underlying24 info3 rfl (by decide) (by omega) u5 x5_25 (wrap64 (a1 + 1)) [.int .i64 (wrap64 (a1 + 1))] (fun _ => True) (fun _ => False) rfl rfl ?aP (fun _ hk => hk.elim) ?aF ?aO ?aB ?aS ?aL ?_;(case aP => exact rfl);(case aB => exact qq100);(case aF => exact qq272);(case aO => exact qq220);(case aS => exact qq79);(case aL => exact qq273);intro v350 w50 ho hb hg hat;rw [← Ny349.out] at ho;replace BK336:=am qq285;replace HB:=am (hb);have HO351:=am (ho);clear HO_5;clear ho hb hg hat;obtain ⟨hcz51_0,hcz51_1,hcz51_2,hfz51_0,hfz51_1,hfz51_2⟩:=bcl3 BK336.out));try go_wp2_with (first | ((with_reducible refine gate_builtin (b:=.append) (xs:=#[.tmp 65,.tmp 68]) rfl ?_);at_builtin;refine Kd.R_append (Kd.int .i64) (w0:=w) w.heap.size rfl (.tmp 65) (.tmp 68) 24 3 (.int .i64 0) 8 rfl Try.underlying24 info3 rfl (by decide) (by omega) u5 x5_25 (wrap64 (a1 + 1)) [.int .i64 (wrap64 (a1 + 1))] (fun _ => True) (fun _ => False) rfl rfl ?aP (fun _ hk => hk.elim) ?aF ?aO ?aB ?aS ?aL ?_;(case aP => exact rfl);(case aB => exact qq100);(case aF => exact qq272);(case aO => exact qq220);(case aS => exact qq79);(case aL => exact qq273);intro v350 w50 ho hb hg hat;rw [← Ny349.out] at ho;replace BK336:=am qq285;replace HB:=am (hb);have HO351:=am (ho);clear HO_5;clear ho hb hg hat;obtain ⟨hcz51_0,hcz51_1,hcz51_2,hfz51_0,hfz51_1,hfz51_2⟩:=bcl3 BK336.out)))
              go_ret
              exact ⟨_,qq216,qq238,qq124⟩
            ·rw [if_neg c39] at H;exact absurd H (by simp)
           ·replace c38:=Bool.eq_false_iff.mpr c38;subst c38;have H1 : (if (wrap64 (a1 + a0_0)) < (l0_2.length : Int) then (if 0 ≤ (wrap64 (a1 + a0_0)) then (if (rd l0_2 (wrap64 (a1 + a0_0))) = 2 then (some x5_25) else (if x5_25.length < 17592186044416 then (some (x5_25 ++ [wrap64 (a1 + a0_0)])) else (none))) else (none)) else (some x5_25)) = some r:=by rw [if_neg (show ¬ (false = true) by decide)] at H;exact H
            clear H;have H:=H1;clear H1
            by_cases c52 : (wrap64 (a1 + a0_0)) < (l0_2.length : Int)
            ·rw [if_pos c52] at H;have c52b0 : decide ((wrap64 (a1 + a0_0)) < (l0_2.length : Int)) = true:=decide_eq_true c52;clear c52;obtain ⟨ji53,hji53⟩ : ∃ j_ : Int,(wrap64 (a1 + a0_0)) = j_:=⟨_,rfl⟩
             replace H : (if 0 ≤ (ji53) then (if (rd l0_2 (ji53)) = 2 then (some x5_25) else (if x5_25.length < 17592186044416 then (some (x5_25 ++ [ji53])) else (none))) else (none)) = some r:=by first | (rw [hji53] at H;exact H) | (simp only [hji53] at H ⊢;exact H)
             (try rw [hji53] at c52b0);have hji53w : (IntKind.i64.wrap (a1 + a0_0)) = ji53:=(i64_w _).trans hji53
             by_cases c54 : 0 ≤ (ji53)
             ·rw [if_pos c54] at H;have c54b0 : decide (0 ≤ (ji53)) = true:=decide_eq_true c54;clear c54
              by_cases c55 : (rd l0_2 (ji53)) = 2
              ·rw [if_pos c55] at H;have c55b0 : ((rd l0_2 (ji53)) == 2) = true:=beq_iff_eq.mpr c55;have c55b1 : ((rd l0_2 (ji53)) != 2) = false:=bne_eq_false_iff_eq.mpr c55;clear c55;obtain rfl:=Option.some.inj H;obtain ⟨hcz56_0,hcz56_1,hcz56_2,hfz56_0,hfz56_1,hfz56_2⟩:=bcl3 BK336.out;have p356 : 0 ≤ ((ji53) : Int):=odt qq258;have q356 : (ji53) < (l0_2.length : Int):=odt qq258;obtain ⟨ad356,e356,hx356_0⟩:=Kd.at_int HR0_2.out (ji53) p356 q356
               cases e356
               replace hx356_0:=(ct HB.out hx356_0 :)
               replace p356:=eq_true p356;replace q356:=eq_true q356;go_wp2
               repeat (go_quiet (fail);try go_wp2)
               go_ret
               exact ⟨_,qq71,qq251,qq124⟩
              ·rw [if_neg c55] at H;have c55b0 : ((rd l0_2 (ji53)) == 2) = false:=beq_eq_false_iff_ne.mpr c55;have c55b1 : ((rd l0_2 (ji53)) != 2) = true:=bne_iff_ne.mpr c55
               by_cases c57 : x5_25.length < 17592186044416
               ·rw [if_pos c57] at H;have LMc57:=am c57;clear c57;obtain ⟨y357,hy357⟩ : ∃ y_ : List Int,y_ = (x5_25 ++ [ji53]):=⟨_,rfl⟩
                replace H : (some y357) = some r:=by first | (rw [hy357];with_reducible exact H) | (have H2_:=(Option.bind_some _ _).symm.trans H;rw [hy357];with_reducible exact H2_) | (have H2_:=(Option.bind_some _ _).symm.trans H;with_reducible exact H2_) | with_reducible exact H | (rw [hy357];exact H) | exact H
                have Ny357:=am hy357;clear hy357;obtain rfl:=Option.some.inj H;obtain ⟨hcz58_0,hcz58_1,hcz58_2,hfz58_0,hfz58_1,hfz58_2⟩:=bcl3 BK336.out;have p356 : 0 ≤ ((ji53) : Int):=odt qq258;have q356 : (ji53) < (l0_2.length : Int):=odt qq258;obtain ⟨ad356,e356,hx356_0⟩:=Kd.at_int HR0_2.out (ji53) p356 q356
                cases e356
                replace hx356_0:=(ct HB.out hx356_0 :)
                replace p356:=eq_true p356;replace q356:=eq_true q356;go_wp2_with (first | ((with_reducible refine gate_builtin (b:=.append) (xs:=#[.tmp 89,.tmp 94]) rfl ?_);at_builtin;refine Kd.R_append (Kd.int .i64) (w0:=w) w.heap.size rfl (.tmp 89) (.tmp 94) 24 3 (.int .i64 0) 8 rfl Try.underlying24 info3 rfl (by decide) (by omega) u5 x5_25 ji53 [.int .i64 ji53] (fun _ => True) (fun _ => False) rfl rfl ?aP (fun _ hk => hk.elim) ?aF ?aO ?aB ?aS ?aL ?_;(case aP => exact rfl);(case aB => exact qq100);(case aF => exact qq272);(case aO => exact qq220);(case aS => exact qq79);(case aL => have:=LMc57.out;omega);intro v358 w59 ho hb hg hat;rw [← Ny357.out] at ho;replace BK336:=am qq279;replace HB:=am (hb);have HO359:=am (ho);clear HO_5;clear ho hb hg hat))
                repeat (go_quiet (first | ((with_reducible refine gate_builtin (b:=.append) (xs:=#[.tmp 89,.tmp 94]) rfl ?_);at_builtin;refine Kd.R_append (Kd.int .i64) (w0:=w) w.heap.size rfl (.tmp 89) (.tmp 94) 24 3 (.int .i64 0) 8 rfl Try.underlying24 info3 rfl (by decide) (by omega) u5 x5_25 ji53 [.int .i64 ji53] (fun _ => True) (fun _ => False) rfl rfl ?aP (fun _ hk => hk.elim) ?aF ?aO ?aB ?aS ?aL ?_;(case aP => exact rfl);(case aB => exact qq100);(case aF => exact qq272);(case aO => exact qq220);(case aS => exact qq79);(case aL => have:=LMc57.out;omega);intro v358 w59 ho hb hg hat;rw [← Ny357.out] at ho;replace BK336:=am qq279;replace HB:=am (hb);have HO359:=am (ho);clear HO_5;clear ho hb hg hat));try go_wp2_with (first | ((with_reducible refine gate_builtin (b:=.append) (xs:=#[.tmp 89,.tmp 94]) rfl ?_);at_builtin;refine Kd.R_append (Kd.int .i64) (w0:=w) w.heap.size rfl (.tmp 89) (.tmp 94) 24 3 (.int .i64 0) 8 rfl Try.underlying24 info3 rfl (by decide) (by omega) u5 x5_25 ji53 [.int .i64 ji53] (fun _ => True) (fun _ => False) rfl rfl ?aP (fun _ hk => hk.elim) ?aF ?aO ?aB ?aS ?aL ?_;(case aP => exact rfl);(case aB => exact qq100);(case aF => exact qq272);(case aO => exact qq220);(case aS => exact qq79);(case aL => have:=LMc57.out;omega);intro v358 w59 ho hb hg hat;rw [← Ny357.out] at ho;replace BK336:=am qq279;replace HB:=am (hb);have HO359:=am (ho);clear HO_5;clear ho hb hg hat)))
                go_ret
                exact ⟨_,qq71,by (with_reducible repeat (first | apply kA | apply kN | apply kD));exact HO359.out,qq124⟩
               ·rw [if_neg c57] at H;exact absurd H (by simp)
             ·rw [if_neg c54] at H;exact absurd H (by simp)
            ·rw [if_neg c52] at H;have c52b0 : decide ((wrap64 (a1 + a0_0)) < (l0_2.length : Int)) = false:=decide_eq_false c52;clear c52;obtain rfl:=Option.some.inj H;obtain ⟨hcz60_0,hcz60_1,hcz60_2,hfz60_0,hfz60_1,hfz60_2⟩:=bcl3 BK336.out;go_wp2
             repeat (go_quiet (fail);try go_wp2)
             go_ret
             exact ⟨_,qq216,qq251,qq124⟩

end Go.Proofs.Ytimpjccgnkbgmaa.PFnSearch
