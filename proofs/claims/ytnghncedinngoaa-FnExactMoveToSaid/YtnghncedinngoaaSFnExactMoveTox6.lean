/- Contracts of functions that the law FnExactMoveTo reaches, for its row: lines that the kit's printer wrote for this claim, set shorter by a program of this session (own.py), and what fell in Lean proved anew. Lean checks them. -/
import Derived.Test.YtnghncedinngoaaSFnExactMoveTox0
import Derived.Test.YtnghncedinngoaaSFnExactMoveTox4
namespace Go.Proofs.Ytnghncedinngoaa.PFnExactMoveTo
open Go.RowKit Go.Proofs.YtnghncedinngoaaW.PrintWords Go.Proofs.YtnghncedinngoaaW.PrintLast Go.Proofs.YtnghncedinngoaaW.PrintMore
attribute [local go_sem] max2_int min2_int max_two min_two max_three min_three max_four min_four   -- for this text's walks alone
set_option linter.unusedVariables false
set_option linter.unusedSimpArgs false

/-! ### impl_TentOf: function 23 -/
def impl_TentOf.l0 : Nat → Int → List (S45) → Int → Int → Option (Int)
 | 0,_,_,_,_ => none
 | k + 1,x1,x7,x8,x9 => if x9 < x8 then (if 0 ≤ x9 then (if x9 < (x7.length : Int) then ((impl_has.f k ((rd_T45 x7 x9).f2) x1).bind fun t220 => (if t220 = true then (some ((rd_T45 x7 x9).f0)) else (impl_TentOf.l0 k x1 x7 x8 (wrap64 (x9 + 1))))) else (none)) else (none)) else (some 0)
def impl_TentOf.f (k : Nat) (l0 : List (S45)) (a1 : Int) : Option (Int) := impl_TentOf.l0 k a1 l0 (l0.length : Int) 0
theorem impl_TentOf.mono_l : ∀ k, (∀ y0 y1 y2 y3, LeO (impl_TentOf.l0 k y0 y1 y2 y3) (impl_TentOf.l0 (k + 1) y0 y1 y2 y3))
 | 0 => fun _ _ _ _ r h => by simp [impl_TentOf.l0] at h
 | k + 1 => by
  have ih0:=impl_TentOf.mono_l k
  ·intro y0 y1 y2 y3
   unfold impl_TentOf.l0
   repeat' first
   | (with_reducible exact ih0 _ _ _ _)
   | (with_reducible exact impl_has.mono _ _ _)
   | (with_reducible exact LeO.refl _)
   | (with_reducible exact LeO.none _)
   | (with_reducible refine LeO.ite ?_ ?_)
   | (with_reducible refine LeO.bind ?_ (fun _ => ?_))
   | exact ih0 _ _ _ _
   | exact impl_has.mono _ _ _
   | exact LeO.none _
   | refine LeO.ite ?_ ?_
   | refine LeO.bind ?_ (fun _ => ?_)
theorem impl_TentOf.mono : ∀ a0 a1 k, LeO (impl_TentOf.f k a0 a1) (impl_TentOf.f (k + 1) a0 a1) := by
 intro a0 a1 k
 have ih0:=impl_TentOf.mono_l k
 unfold impl_TentOf.f
 repeat' first
   | (with_reducible exact ih0 _ _ _ _)
   | (with_reducible exact impl_has.mono _ _ _)
   | (with_reducible exact LeO.refl _)
   | (with_reducible exact LeO.none _)
   | (with_reducible refine LeO.ite ?_ ?_)
   | (with_reducible refine LeO.bind ?_ (fun _ => ?_))
   | exact ih0 _ _ _ _
   | exact impl_has.mono _ _ _
   | exact LeO.none _
   | refine LeO.ite ?_ ?_
   | refine LeO.bind ?_ (fun _ => ?_)
set_option maxHeartbeats 8000000 in
set_option maxRecDepth 100000 in
theorem impl_TentOf.calls (k : Nat) (A0 : Option Addr) (c0 : Nat) (l0 : List (S45)) (a1 : Int) (r : Int) (w : World) (hr0 : Kd.C k45 w A0 l0.length l0) (hc0 : l0.length ≤ c0) (h : impl_TentOf.f k l0 a1 = some r) :
  Calls Try.prog 23 #[.slice A0 l0.length c0,.int .i64 a1] w fun e w' => e = .returned (.int .i64 r) ∧ Below w.heap.size w w':=by
 have hu45:=Try.underlying45;have HR0:=am hr0;have HC0:=am hc0;clear hr0 hc0;have HB:=am qq149;have H : (impl_TentOf.l0 k a1 l0 (l0.length : Int) 0) = some r:=h;clear h;have H':=am H;clear H
 go_enter Try.func23,Try.ntmps23
 go_wp2
 go_loopg [9] k (fun kq v9 w' => ∃ (x9_1 : Int),v9 = .int .i64 x9_1 ∧ Aside0 (impl_TentOf.l0 kq a1 l0 (l0.length : Int) x9_1 = some r) ∧ Aside0 (kq ≤ k) ∧ Aside0 (Below w.heap.size w w'))
 case atStart => exact ⟨(0),qq105,H',⟨Nat.le_refl _⟩,⟨qq80⟩⟩
 case round =>
  clear H'
  try clear c2
  try clear p2
  obtain ⟨x9_1,rfl,HA,HK1,HB⟩:=hrel
  cases gk with
  | zero => exact absurd HA.out (by simp [impl_TentOf.l0])
  | succ k1 =>
   have H:=HA.out;clear HA;simp only [impl_TentOf.l0] at H
   by_cases c3 : x9_1 < (l0.length : Int)
   ·rw [if_pos c3] at H;have c3b0 : decide (x9_1 < (l0.length : Int)) = true:=decide_eq_true c3;clear c3
    by_cases c4 : 0 ≤ x9_1
    ·rw [if_pos c4] at H;have c4b0 : decide (0 ≤ x9_1) = true:=decide_eq_true c4;clear c4
     by_cases c5 : x9_1 < (l0.length : Int)
     ·rw [if_pos c5] at H;have c5b0 : decide (x9_1 < (l0.length : Int)) = true:=decide_eq_true c5;clear c5;replace H:=bS.mp H;obtain ⟨t220,A60,H⟩:=H;replace H : (if t220 = true then (some ((rd_T45 l0 x9_1).f0)) else (impl_TentOf.l0 k1 a1 l0 (l0.length : Int) (wrap64 (x9_1 + 1)))) = some r:=H;have A6:=am A60;clear A60
      by_cases c7 : t220 = true
      ·subst c7;have H1 : (some ((rd_T45 l0 x9_1).f0)) = some r:=by rw [if_pos rfl] at H;exact H
       clear H;have H:=H1;clear H1;obtain rfl:=Option.some.inj H;have p218 : 0 ≤ (x9_1 : Int):=odt qq103;have q218 : x9_1 < (l0.length : Int):=odt qq103;obtain ⟨ad218,A218_2,c218_2,e218,hx218_0,hx218_1,hx218_2,hl218_2,hi218_2⟩:=at_T45 HR0.out x9_1 p218 q218
       cases e218
       replace hx218_0:=(ct HB.out hx218_0 :)
       replace hx218_1:=(ct HB.out hx218_1 :)
       replace hx218_2:=(ct HB.out hx218_2 :)
       have HR218_2:=am hi218_2;have HC218_2:=am hl218_2;clear hi218_2 hl218_2;replace p218:=eq_true p218;replace q218:=eq_true q218;go_wp2_with (first | ((with_reducible refine gate_dst (N:=6) rfl ?_);refine box_event ?hg (N:=6) ?hd (cs:=#[.int .i64 0,.int .i64 0,.slice none 0 0]) (t:=45) ?hr ?_;(case hd => rfl);(case hg => rfl);(case hr => exact qq110);intro gb219 hg w8 hbox hb;have BK219:=am (hbox);have GW219:=am qq146;have GE219:=am qq146;replace HB:=am qq153;clear hb hbox hg;obtain ⟨hcz9_0,hcz9_1,hcz9_2,hfz9_0,hfz9_1,hfz9_2⟩:=bcl3 BK219.out) | ((with_reducible refine gate_callee (f:=42) rfl ?_);refine goesL_ (some 16) rfl rfl Try.func42 (by kernel_rfl) rfl #[.slice A218_2 ((rd_T45 l0 x9_1).f2).length c218_2,.int .i64 a1] rfl qq48 ?_;(with_reducible refine (impl_has.calls k1 _ _ ((rd_T45 l0 x9_1).f2) a1 true _ ?side1 ?side2 A6.out).mono ?_);(case side1 => exact qq20);(case side2 => exact HC218_2.out);rintro e w' ⟨rfl,⟨nd,rfl⟩⟩;refine ⟨_,rfl,?_⟩))
       go_ret
       exact ⟨qq93,qq44⟩
      ·replace c7:=Bool.eq_false_iff.mpr c7;subst c7;have H1 : (impl_TentOf.l0 k1 a1 l0 (l0.length : Int) (wrap64 (x9_1 + 1))) = some r:=by rw [if_neg (show ¬ (false = true) by decide)] at H;exact H
       clear H;have H:=H1;clear H1;have H':=am H;clear H;have p218 : 0 ≤ (x9_1 : Int):=odt qq103;have q218 : x9_1 < (l0.length : Int):=odt qq103;obtain ⟨ad218,A218_2,c218_2,e218,hx218_0,hx218_1,hx218_2,hl218_2,hi218_2⟩:=at_T45 HR0.out x9_1 p218 q218
       cases e218
       replace hx218_0:=(ct HB.out hx218_0 :)
       replace hx218_1:=(ct HB.out hx218_1 :)
       replace hx218_2:=(ct HB.out hx218_2 :)
       have HR218_2:=am hi218_2;have HC218_2:=am hl218_2;clear hi218_2 hl218_2;replace p218:=eq_true p218;replace q218:=eq_true q218;go_wp2_with (first | ((with_reducible refine gate_dst (N:=6) rfl ?_);refine box_event ?hg (N:=6) ?hd (cs:=#[.int .i64 0,.int .i64 0,.slice none 0 0]) (t:=45) ?hr ?_;(case hd => rfl);(case hg => rfl);(case hr => exact qq110);intro gb219 hg w10 hbox hb;have BK219:=am (hbox);have GW219:=am qq146;have GE219:=am qq146;replace HB:=am qq153;clear hb hbox hg;obtain ⟨hcz11_0,hcz11_1,hcz11_2,hfz11_0,hfz11_1,hfz11_2⟩:=bcl3 BK219.out) | ((with_reducible refine gate_callee (f:=42) rfl ?_);refine goesL_ (some 16) rfl rfl Try.func42 (by kernel_rfl) rfl #[.slice A218_2 ((rd_T45 l0 x9_1).f2).length c218_2,.int .i64 a1] rfl qq48 ?_;(with_reducible refine (impl_has.calls k1 _ _ ((rd_T45 l0 x9_1).f2) a1 false _ ?side1 ?side2 A6.out).mono ?_);(case side1 => exact qq20);(case side2 => exact HC218_2.out);rintro e w' ⟨rfl,⟨nd,rfl⟩⟩;refine ⟨_,rfl,?_⟩))
       go_roundg k1
       case measure => have:=HK1.out;omega
       case rel => exact ⟨(wrap64 (x9_1 + 1)),qq105,H',⟨qq118⟩,⟨qq44⟩⟩
     ·rw [if_neg c5] at H;exact absurd H (by simp)
    ·rw [if_neg c4] at H;exact absurd H (by simp)
   ·rw [if_neg c3] at H;have c3b0 : decide (x9_1 < (l0.length : Int)) = false:=decide_eq_false c3;clear c3;obtain rfl:=Option.some.inj H;go_wp2
    go_ret
    exact ⟨qq93,qq80⟩

/-! ### impl_copyOf: function 49 -/
def impl_copyOf.f (l0 : List Int) : Option (List Int) := (some (([] : List Int) : List Int)).bind fun y221 => (if y221.length + l0.length < 17592186044416 then (some (y221 ++ l0)) else (none))
set_option maxHeartbeats 8000000 in
set_option maxRecDepth 100000 in
theorem impl_copyOf.calls (A0 : Option Addr) (c0 : Nat) (l0 : List Int) (r : List Int) (w : World) (hr0 : Kd.C (Kd.int .i64) w A0 l0.length l0) (hc0 : l0.length ≤ c0) (h : impl_copyOf.f l0 = some r) :
  Calls Try.prog 49 #[.slice A0 l0.length c0] w fun e w' => ∃ v0_ : Value,e = .returned (v0_) ∧ Kd.R (Kd.int .i64) 3 w' w.heap.size (fun _ => True) v0_ r ∧ Below w.heap.size w w':=by
 have HR0:=am hr0;have HC0:=am hc0;clear hr0 hc0;have HB:=am qq149;have H : ((some (([] : List Int) : List Int)).bind fun y221 => (if y221.length + l0.length < 17592186044416 then (some (y221 ++ l0)) else (none))) = some r:=h;clear h;obtain ⟨y221,hy221⟩ : ∃ y_ : List Int,y_ = (([] : List Int)):=⟨_,rfl⟩
 replace H : (if y221.length + l0.length < 17592186044416 then (some (y221 ++ l0)) else (none)) = some r:=by first | (rw [hy221];with_reducible exact H) | (have H2_:=(Option.bind_some _ _).symm.trans H;rw [hy221];with_reducible exact H2_) | (have H2_:=(Option.bind_some _ _).symm.trans H;with_reducible exact H2_) | with_reducible exact H | (rw [hy221];exact H) | exact H
 have Ny221:=am hy221;clear hy221
 by_cases c2 : y221.length + l0.length < 17592186044416
 ·rw [if_pos c2] at H;have LMc2:=am c2;clear c2;obtain ⟨y224,hy224⟩ : ∃ y_ : List Int,y_ = (y221 ++ l0):=⟨_,rfl⟩
  replace H : (some y224) = some r:=by first | (rw [hy224];with_reducible exact H) | (have H2_:=(Option.bind_some _ _).symm.trans H;rw [hy224];with_reducible exact H2_) | (have H2_:=(Option.bind_some _ _).symm.trans H;with_reducible exact H2_) | with_reducible exact H | (rw [hy224];exact H) | exact H
  have Ny224:=am hy224;clear hy224;obtain rfl:=Option.some.inj H
  go_enter Try.func49,Try.ntmps49
  go_wp2_with (first | ((with_reducible refine gate_dst (N:=3) rfl ?_);refine Kd.R_lit (Kd.int .i64) _ 3 ?hg (N:=3) ?hd (xs:=([] : List Int)) (inner:=[]) (ok:=fun _ => True) (okp:=fun _ => True) ?hr ?hp (fun _ hk => hk) trivial (Below.refl _ _) (Nat.le_refl _) (by simp) ?_;(case hd => rfl);(case hg => rfl);(case hr => exact qq110);(case hp => exact qq117);intro v222 w3 ho4 hb hg_ hnew_;clear hg_ hnew_;(first | rw [← Ny221.out] at ho4 | (simp only [Int.reduceToNat] at ho4;rw [← Ny221.out] at ho4));have HO223:=am (Kd.R_lower ho4 (below_size qq80));replace HB:=am qq153;clear hb ho4) | ((with_reducible refine gate_builtin (b:=.append) (xs:=#[.tmp 3,.tmp 4]) rfl ?_);at_builtin;refine Kd.R_append_rows (Kd.int .i64) (w0:=w) w.heap.size rfl (.tmp 3) (.tmp 4) 43 3 (.int .i64 0) 8 rfl Try.underlying43 info3 rfl (by decide) (by omega) v222 y221 l0 _ _ _ (fun _ => True) (fun _ => False) rfl rfl ?aO ?aR (fun _ _ h => h) (fun _ h => h.elim) ?aF ?aB ?aS ?aL ?_;(case aR => exact qq32);(case aB => exact qq74);(case aF => exact qq116);(case aO => exact (by (with_reducible repeat (first | apply kA | apply kN | apply kD));exact HO223.out));(case aS => exact qq66);(case aL => have:=LMc2.out;omega);intro v225 w5 ho hb hg hat;rw [← Ny224.out] at ho;replace HB:=am (hb);have HO226:=am (ho);clear HO223;clear ho hb hg hat))
  go_ret
  exact ⟨_,qq93,by (with_reducible repeat (first | apply kA | apply kN | apply kD));exact HO226.out,qq80⟩
 ·rw [if_neg c2] at H;exact absurd H (by simp)

/-! ### impl_copyTents: function 30 -/
def impl_copyTents.l0 : Nat → List (S45) → List (S45) → Int → Int → Option ((List (S45)))
 | 0,_,_,_,_ => none
 | k + 1,x3,x7,x8,x9 => if x9 < x8 then (if 0 ≤ x9 then (if x9 < (x7.length : Int) then ((impl_copyOf.f ((rd_T45 x7 x9).f2)).bind fun t232 => (if x3.length < 3518437208883 then (impl_copyTents.l0 k (x3 ++ [(⟨(rd_T45 x7 x9).f0,(rd_T45 x7 x9).f1,t232⟩ : S45)]) x7 x8 (wrap64 (x9 + 1))) else (none))) else (none)) else (none)) else (some x3)
def impl_copyTents.f (k : Nat) (l0 : List (S45)) : Option ((List (S45))) := impl_copyTents.l0 k (([] : List (S45))) l0 (l0.length : Int) 0
theorem impl_copyTents.mono_l : ∀ k, (∀ y0 y1 y2 y3, LeO (impl_copyTents.l0 k y0 y1 y2 y3) (impl_copyTents.l0 (k + 1) y0 y1 y2 y3))
 | 0 => fun _ _ _ _ r h => by simp [impl_copyTents.l0] at h
 | k + 1 => by
  have ih0:=impl_copyTents.mono_l k
  ·intro y0 y1 y2 y3
   unfold impl_copyTents.l0
   repeat' first
   | (with_reducible exact ih0 _ _ _ _)
   | (with_reducible exact LeO.refl _)
   | (with_reducible exact LeO.none _)
   | (with_reducible refine LeO.ite ?_ ?_)
   | (with_reducible refine LeO.bind ?_ (fun _ => ?_))
   | exact ih0 _ _ _ _
   | exact LeO.none _
   | refine LeO.ite ?_ ?_
   | refine LeO.bind ?_ (fun _ => ?_)
theorem impl_copyTents.mono : ∀ a0 k, LeO (impl_copyTents.f k a0) (impl_copyTents.f (k + 1) a0) := by
 intro a0 k
 have ih0:=impl_copyTents.mono_l k
 unfold impl_copyTents.f
 repeat' first
   | (with_reducible exact ih0 _ _ _ _)
   | (with_reducible exact LeO.refl _)
   | (with_reducible exact LeO.none _)
   | (with_reducible refine LeO.ite ?_ ?_)
   | (with_reducible refine LeO.bind ?_ (fun _ => ?_))
   | exact ih0 _ _ _ _
   | exact LeO.none _
   | refine LeO.ite ?_ ?_
   | refine LeO.bind ?_ (fun _ => ?_)
def impl_copyTents.T5 : Bool × List (List Nat × List Nat) := (true, [([], []), ([], []), ([1], [1]), ([], []), ([3], [3]), ([], []), ([5], [5]), ([6], [6]), ([2, 4, 7], [2, 4, 7]), ([8], [8]), ([0, 9, 7], [0, 9]), ([10, 10, 0, 1, 2, 3, 4, 5, 6, 7, 8, 9, 10], [0, 10])])
def impl_copyTents.B5 : List Nat := [0, 0, 2, 0, 8, 0, 32, 96, 254, 510, 1023, 2047]
theorem impl_copyTents.tab5 : rtab .any (opsOf Try.f30 5) = impl_copyTents.T5 := by kernel_rfl
theorem impl_copyTents.bits5 : waitsOk impl_copyTents.T5.2 impl_copyTents.B5 = true := by kernel_rfl
set_option maxHeartbeats 8000000 in
set_option maxRecDepth 100000 in
theorem impl_copyTents.calls (k : Nat) (A0 : Option Addr) (c0 : Nat) (l0 : List (S45)) (r : List (S45)) (w : World) (hr0 : Kd.C k45 w A0 l0.length l0) (hc0 : l0.length ≤ c0) (h : impl_copyTents.f k l0 = some r) :
  Calls Try.prog 30 #[.slice A0 l0.length c0] w fun e w' => ∃ v0_ : Value,e = .returned (v0_) ∧ Kd.S k45 45 w' w.heap.size (fun _ => True) v0_ r ∧ Below w.heap.size w w':=by
 have hu45:=Try.underlying45;have HR0:=am hr0;have HC0:=am hc0;clear hr0 hc0;have HB:=am qq149;have H : (impl_copyTents.l0 k (([] : List (S45))) l0 (l0.length : Int) 0) = some r:=h;clear h;obtain ⟨y227,hy227⟩ : ∃ y_ : List (S45),y_ = (([] : List (S45))):=⟨_,rfl⟩
 replace H : (impl_copyTents.l0 k y227 l0 (l0.length : Int) 0) = some r:=by first | (rw [hy227];with_reducible exact H) | (have H2_:=(Option.bind_some _ _).symm.trans H;rw [hy227];with_reducible exact H2_) | (have H2_:=(Option.bind_some _ _).symm.trans H;with_reducible exact H2_) | with_reducible exact H | (rw [hy227];exact H) | exact H
 have Ny227:=am hy227;clear hy227;have H':=am H;clear H
 go_enter Try.func30,Try.ntmps30
 go_wp2_with (first | ((with_reducible refine gate_dst (N:=6) rfl ?_);refine Kd.S_lit k45 _ 45 ?hg (N:=6) ?hd (xs:=([] : List (S45))) (inner:=[]) (ok:=fun _ => True) (okp:=fun _ => True) ?hr ?hp (fun _ hk => hk) trivial (Below.refl _ _) (Nat.le_refl _) (by simp) ?_;(case hd => rfl);(case hg => rfl);(case hr => exact qq110);(case hp => exact qq117);intro v228 w2 ho3 hb hg_ hnew_;clear hg_ hnew_;(first | rw [← Ny227.out] at ho3 | (simp only [Int.reduceToNat] at ho3;rw [← Ny227.out] at ho3));have HO229:=am (Kd.S_lower ho3 (below_size qq80));replace HB:=am qq153;clear hb ho3))
 go_loopg [3,9] k (fun kq v3 v9 w' => ∃ (x3_1 : List (S45)) (x9_1 : Int),v9 = .int .i64 x9_1 ∧ Aside0 (impl_copyTents.l0 kq x3_1 l0 (l0.length : Int) x9_1 = some r) ∧ Aside0 (kq ≤ k) ∧ Aside0 (Kd.S k45 45 w' w.heap.size (fun _ => True) v3 x3_1) ∧ Aside0 (Below w.heap.size w w'))
 case atStart => exact ⟨(y227),(0),qq105,H',⟨Nat.le_refl _⟩,⟨by (with_reducible repeat (first | apply Kd.S_alloc | apply Kd.S_drewN | apply Kd.S_drew));exact HO229.out⟩,⟨qq80⟩⟩
 case round =>
  clear H'
  try clear p2
  try clear c3
  obtain ⟨x3_1,x9_1,rfl,HA,HK1,HO_3,HB⟩:=hrel
  cases gk with
  | zero => exact absurd HA.out (by simp [impl_copyTents.l0])
  | succ k1 =>
   have H:=HA.out;clear HA;simp only [impl_copyTents.l0] at H
   by_cases c4 : x9_1 < (l0.length : Int)
   ·rw [if_pos c4] at H;have c4b0 : decide (x9_1 < (l0.length : Int)) = true:=decide_eq_true c4;clear c4
    by_cases c5 : 0 ≤ x9_1
    ·rw [if_pos c5] at H;have c5b0 : decide (0 ≤ x9_1) = true:=decide_eq_true c5;clear c5
     by_cases c6 : x9_1 < (l0.length : Int)
     ·rw [if_pos c6] at H;have c6b0 : decide (x9_1 < (l0.length : Int)) = true:=decide_eq_true c6;clear c6;replace H:=bS.mp H;obtain ⟨t232,A70,H⟩:=H;replace H : (if x3_1.length < 3518437208883 then (impl_copyTents.l0 k1 (x3_1 ++ [(⟨(rd_T45 l0 x9_1).f0,(rd_T45 l0 x9_1).f1,t232⟩ : S45)]) l0 (l0.length : Int) (wrap64 (x9_1 + 1))) else (none)) = some r:=H;have A7:=am A70;clear A70
      by_cases c8 : x3_1.length < 3518437208883
      ·rw [if_pos c8] at H;have LMc8:=am c8;clear c8;obtain ⟨y235,hy235⟩ : ∃ y_ : List (S45),y_ = (x3_1 ++ [(⟨(rd_T45 l0 x9_1).f0,(rd_T45 l0 x9_1).f1,t232⟩ : S45)]):=⟨_,rfl⟩
       replace H : (impl_copyTents.l0 k1 y235 l0 (l0.length : Int) (wrap64 (x9_1 + 1))) = some r:=by first | (rw [hy235];with_reducible exact H) | (have H2_:=(Option.bind_some _ _).symm.trans H;rw [hy235];with_reducible exact H2_) | (have H2_:=(Option.bind_some _ _).symm.trans H;with_reducible exact H2_) | with_reducible exact H | (rw [hy235];exact H) | exact H
       have Ny235:=am hy235;clear hy235;have H':=am H;clear H;have p230 : 0 ≤ (x9_1 : Int):=odt qq103;have q230 : x9_1 < (l0.length : Int):=odt qq103;obtain ⟨ad230,A230_2,c230_2,e230,hx230_0,hx230_1,hx230_2,hl230_2,hi230_2⟩:=at_T45 HR0.out x9_1 p230 q230
       cases e230
       replace hx230_0:=(ct HB.out hx230_0 :)
       replace hx230_1:=(ct HB.out hx230_1 :)
       replace hx230_2:=(ct HB.out hx230_2 :)
       have HR230_2:=am hi230_2;have HC230_2:=am hl230_2;clear hi230_2 hl230_2;replace p230:=eq_true p230;replace q230:=eq_true q230
       try go_wp2_with (first | ((with_reducible refine gate_dst (N:=5) rfl ?_);refine box_event ?hg (N:=5) ?hd (cs:=#[.int .i64 0,.int .i64 0,.slice none 0 0]) (t:=45) ?hr ?_;(case hd => rfl);(case hg => rfl);(case hr => exact qq110);intro gb231 hg w9 hbox hb;replace HO_3:=am (Kd.S_below (Kd.S_elderB qq82 gb231 (Nat.le_of_eq hg.symm)) hb);have BK231:=am (hbox);have GW231:=am ((qq39 : w.heap.size ≤ gb231));have GE231:=am ((qq39 : w.heap.size ≤ gb231));replace HB:=am qq153;clear hb hbox hg;obtain ⟨hcz10_0,hcz10_1,hcz10_2,hfz10_0,hfz10_1,hfz10_2⟩:=bcl3 BK231.out))
       have n0_ : Aside0 (Kd.S k45 45 (((w9.setCell ⟨gb231,0,none⟩ (.int .i64 ((rd_T45 l0 x9_1).f0))).setCell ⟨gb231,1,none⟩ (.int .i64 ((rd_T45 l0 x9_1).f1))).setCell ⟨gb231,2,none⟩ (.slice A230_2 ((rd_T45 l0 x9_1).f2).length c230_2)) w.heap.size (fun k_ => k_ ≠ gb231) u3 x3_1):=⟨by (with_reducible repeat (first | apply Kd.S_alloc | apply Kd.S_drewN | apply Kd.S_drew));exact Kd.S_mono (Kd.S_far (p:=⟨gb231,2,none⟩) (Kd.S_far (p:=⟨gb231,1,none⟩) (Kd.S_far (p:=⟨gb231,0,none⟩) (Kd.S_mono HO_3.out (fun k_ hk => (⟨hk,hk.2⟩ : _ ∧ k_ ≠ gb231))) (fun _ hk => hk.2) (.int .i64 ((rd_T45 l0 x9_1).f0))) (fun _ hk => hk.2) (.int .i64 ((rd_T45 l0 x9_1).f1))) (fun _ hk => hk.2) (.slice A230_2 ((rd_T45 l0 x9_1).f2).length c230_2)) (fun _ hk => hk.1.2)⟩
       have n1_ : Aside0 ((((w9.setCell ⟨gb231,0,none⟩ (.int .i64 ((rd_T45 l0 x9_1).f0))).setCell ⟨gb231,1,none⟩ (.int .i64 ((rd_T45 l0 x9_1).f1))).setCell ⟨gb231,2,none⟩ (.slice A230_2 ((rd_T45 l0 x9_1).f2).length c230_2)).heap[gb231]? = some (.cells #[.int .i64 ((rd_T45 l0 x9_1).f0),.int .i64 ((rd_T45 l0 x9_1).f1),.slice A230_2 ((rd_T45 l0 x9_1).f2).length c230_2] 45 (0,0))):=⟨by (with_reducible repeat (first | refine dN ?_ _ | refine dD ?_ | refine dA ?_ _));refine blk_put (cs:=#[.int .i64 ((rd_T45 l0 x9_1).f0),.int .i64 ((rd_T45 l0 x9_1).f1),.slice none 0 0]) ?_ 2 _ rfl;(with_reducible repeat (first | refine dN ?_ _ | refine dD ?_ | refine dA ?_ _));refine blk_put (cs:=#[.int .i64 ((rd_T45 l0 x9_1).f0),.int .i64 0,.slice none 0 0]) ?_ 1 _ rfl;(with_reducible repeat (first | refine dN ?_ _ | refine dD ?_ | refine dA ?_ _));refine blk_put (cs:=#[.int .i64 0,.int .i64 0,.slice none 0 0]) ?_ 0 _ rfl;(with_reducible repeat (first | refine dN ?_ _ | refine dD ?_ | refine dA ?_ _));exact BK231.out⟩
       have n2_ : Aside0 (Below w.heap.size w (((w9.setCell ⟨gb231,0,none⟩ (.int .i64 ((rd_T45 l0 x9_1).f0))).setCell ⟨gb231,1,none⟩ (.int .i64 ((rd_T45 l0 x9_1).f1))).setCell ⟨gb231,2,none⟩ (.slice A230_2 ((rd_T45 l0 x9_1).f2).length c230_2))):=⟨qq43⟩
       (try clear HO_3);(try clear BK231);(try clear HB)
       generalize (((w9.setCell ⟨gb231,0,none⟩ (.int .i64 ((rd_T45 l0 x9_1).f0))).setCell ⟨gb231,1,none⟩ (.int .i64 ((rd_T45 l0 x9_1).f1))).setCell ⟨gb231,2,none⟩ (.slice A230_2 ((rd_T45 l0 x9_1).f2).length c230_2)) = w11 at n0_ n1_ n2_ ⊢
       have HO_3:=n0_;have BK231:=n1_;have HB:=n2_;clear n0_ n1_ n2_;replace HO_3:=am (Kd.S_drew HO_3.out);replace BK231:=am (blk_drew BK231.out);replace HB:=am qq154;refine start_ (n:=12) (S:=fun w' => w'.cell? ⟨gb231,0,none⟩ = some (.int .i64 ((rd_T45 l0 x9_1).f0)) ∧ w'.cell? ⟨gb231,1,none⟩ = some (.int .i64 ((rd_T45 l0 x9_1).f1)) ∧ w'.cell? ⟨gb231,2,none⟩ = some (.slice A230_2 ((rd_T45 l0 x9_1).f2).length c230_2)) (ds:=[]) #[Z,Z,Z,Z,Z,Z,Z,Z,Z,Z,Z,Z] (by kernel_rfl) rfl rfl ⟨(blk_cell BK231.out 0).trans rfl,(blk_cell BK231.out 1).trans rfl,(blk_cell BK231.out 2).trans rfl⟩ (fun hHeld => ?_);refine with_tabW impl_copyTents.tab5 impl_copyTents.bits5 (fun HT_ HW_ => ?_)
       generalize w11.drew = w12 at HO_3 BK231 HB hHeld ⊢
       refine pV (i:=0) (N:=some 13) #[Y,Z,Z,Z,Z,Z,Z,Z,Z,Z,Z,Z] rfl rfl qT ?_
       refine pV (i:=1) (N:=some 14) #[Y,Y,Z,Z,Z,Z,Z,Z,Z,Z,Z,Z] rfl rfl qT ?_
       refine pV (i:=3) (N:=some 16) #[Y,Y,Z,Y,Z,Z,Z,Z,Z,Z,Z,Z] rfl rfl qT ?_
       refine pV (i:=5) (N:=some 18) #[Y,Y,Z,Y,Z,Y,Z,Z,Z,Z,Z,Z] rfl rfl qT ?_
       refine tV3 (i:=2) (N:=some 15) #[Y,Y,Y,Y,Z,Y,Z,Z,Z,Z,Z,Z] rfl rfl (take_ofW HT_.out HW_.out (by kernel_rfl)) hHeld ?_
       refine tV3 (i:=4) (N:=some 17) #[Y,Y,Y,Y,Y,Y,Z,Z,Z,Z,Z,Z] rfl rfl (take_ofW HT_.out HW_.out (by kernel_rfl)) hHeld ?_
       refine tV3 (i:=6) (N:=some 19) #[Y,Y,Y,Y,Y,Y,Y,Z,Z,Z,Z,Z] rfl rfl (take_ofW HT_.out HW_.out (by kernel_rfl)) hHeld ?_
       refine one_ (i:=7) (N:=some 20) #[Y,Y,Y,Y,Y,Y,Y,Y,Z,Z,Z,Z] rfl rfl (one_of HT_.out (by kernel_rfl)) (by decide) (fun K hK => ?_);refine goes_ Try.func49 (by kernel_rfl) rfl #[.slice A230_2 ((rd_T45 l0 x9_1).f2).length c230_2] (by rfl) rfl rfl qq48 ?_;with_reducible refine (impl_copyOf.calls _ _ ((rd_T45 l0 x9_1).f2) t232 _ ?side1 ?side2 A7.out).mono ?_
       (case side1 => repeat (first | exact (Kd.C_below HR230_2.out HB.out) | (with_reducible refine cA ?_ _) | (with_reducible refine cN ?_ _) | (with_reducible refine cD ?_)));(case side2 => exact HC230_2.out)
       rintro e w13 ⟨v233,rfl,ho0,hb⟩
       refine ⟨_,rfl,?_⟩;replace HO_3:=am (Kd.S_elder' qq82 (Kd.R_base ho0) hb);have HO234:=am (Kd.R_lower ho0 (below_size qq43));replace BK231:=am (blk_below (g:=gb231) (o:=.cells #[.int .i64 ((rd_T45 l0 x9_1).f0),.int .i64 ((rd_T45 l0 x9_1).f1),.slice A230_2 ((rd_T45 l0 x9_1).f2).length c230_2] 45 (0,0)) qq89 hb);replace HB:=am (below_step qq43 hb);(try clear hb);(try clear hb2);(try clear hk);(try clear hi);(try clear ho0);obtain ⟨Ao14,co14,eo14⟩:=Kd.R_slice HO234.out;(first | subst eo14 | (injection eo14 with f1_ f2_ f3_;have f4_:=f1_.symm;have f5_:=f3_.symm;clear f1_ f2_ f3_;subst f4_;subst f5_));refine hK.out _ _ ⟨(blk_cell BK231.out 0).trans rfl,(blk_cell BK231.out 1).trans rfl,(blk_cell BK231.out 2).trans rfl⟩ (fun hHeld => ?_);clear hK K;refine norm_ (a':=?_) ?_ ?_;rotate_left
       ·show Act.put _ (some 20) _ = _
        simp only [Act.put,sA,s0,s1,i64_w,i32_w];rfl
       refine pV (i:=8) (N:=some 21) #[Y,Y,Y,Y,Y,Y,Y,Y,Y,Z,Z,Z] rfl rfl qT ?_
       refine one_ (i:=9) (N:=some 22) #[Y,Y,Y,Y,Y,Y,Y,Y,Y,Y,Z,Z] rfl rfl (one_of HT_.out (by kernel_rfl)) (by decide) (fun K hK => ?_);refine value_ (w1:=?_) (v:=?_) (by rfl) rfl ?_ ?_;rotate_left 2
       ·go_simp
        constructor
        ·rfl
        ·rfl
       refine hK.out _ _ ⟨(blk_cell (blk_alloc BK231.out _) 0).trans rfl,(blk_cell (blk_alloc BK231.out _) 1).trans rfl,(blk_cell (blk_alloc BK231.out _) 2).trans rfl⟩ (fun hHeld => ?_);clear hK K;refine norm_ (a':=?_) ?_ ?_;rotate_left
       ·show Act.put _ (some 22) _ = _
        simp only [Act.put,sA,s0,s1,i64_w,i32_w];rfl
       refine one_ (i:=10) (N:=some 23) #[Y,Y,Y,Y,Y,Y,Y,Y,Y,Y,Y,Z] rfl rfl (one_of HT_.out (by kernel_rfl)) (by decide) (fun K hK => ?_);refine Kd.S_append_step k45 (w0:=w) w.heap.size (by rfl) (.tmp 13) (.tmp 22) 24 45 (.agg #[(.int .i64 0),(.int .i64 0),(.slice none 0 0)]) 40 rfl Try.underlying24 info45 rfl (by decide) (by omega) u3 x3_1 (⟨(rd_T45 l0 x9_1).f0,(rd_T45 l0 x9_1).f1,t232⟩ : S45) [.int .i64 ((rd_T45 l0 x9_1).f0),.int .i64 ((rd_T45 l0 x9_1).f1),.slice Ao14 t232.length co14] (fun k_ => k_ ≠ gb231) (fun k_ => some k_ = (.slice Ao14 t232.length co14 : Value).ownBlock) rfl rfl ?aP (fun k_ hk_ => ((Kd.R_mono (ok':=fun k_ => ((fun k_ => k_ ≠ gb231)) k_ ∧ some k_ ≠ (u3 : Value).ownBlock) (Kd.R_types (Kd.R_apart' (HO234.out) (Kd.S_typed HO_3.out) (by decide)) BK231.out (by decide)) (fun k_ hk => ⟨hk.2,hk.1.2⟩))).1 k_ hk_.symm) ?aF ?aO ?aB ?aS ?aL ?_;(case aP => exact k45_mkM _ _ _ (⟨(rd_T45 l0 x9_1).f0,(rd_T45 l0 x9_1).f1,t232⟩ : S45) (Kd.R_mono (Kd.R_tight rfl (Kd.R_mono (ok':=fun k_ => ((fun k_ => k_ ≠ gb231)) k_ ∧ some k_ ≠ (u3 : Value).ownBlock) (Kd.R_types (Kd.R_apart' (HO234.out) (Kd.S_typed HO_3.out) (by decide)) BK231.out (by decide)) (fun k_ hk => ⟨hk.2,hk.1.2⟩))) (fun _ h_ => h_)));(case aB => exact qq43);(case aF => exact (fun k_ hk => Kd.freshB (g:=gb231) (o:=.cells #[.int .i64 ((rd_T45 l0 x9_1).f0),.int .i64 ((rd_T45 l0 x9_1).f1),.slice A230_2 ((rd_T45 l0 x9_1).f2).length c230_2] 45 (0,0)) qq89 k_ hk));(case aO => exact (by (with_reducible repeat (first | apply Kd.S_alloc | apply Kd.S_drewN | apply Kd.S_drew));exact Kd.S_mono HO_3.out (fun k_ hk => ⟨hk.1,fun e_ => hk.2 e_⟩)));(case aS => exact (below_size qq43));(case aL => have:=LMc8.out;omega);intro v236 w15 ho hb hg hat;rw [← Ny235.out] at ho;replace BK231:=am (blk_grown (g:=gb231) (o:=.cells #[.int .i64 ((rd_T45 l0 x9_1).f0),.int .i64 ((rd_T45 l0 x9_1).f1),.slice A230_2 ((rd_T45 l0 x9_1).f2).length c230_2] 45 (0,0)) qq89 hg (Kd.S_away HO_3.out (fun _ hk => hk.1)));replace HB:=am (hb);have HO237:=am (ho);clear HO_3 HO234;clear ho hb hg hat;refine hK.out _ _ ⟨(blk_cell BK231.out 0).trans rfl,(blk_cell BK231.out 1).trans rfl,(blk_cell BK231.out 2).trans rfl⟩ (fun hHeld => ?_);clear hK K;refine norm_ (a':=?_) ?_ ?_;rotate_left
       ·show Act.put _ (some 23) _ = _
        simp only [Act.put,sA,s0,s1,i64_w,i32_w];rfl
       refine pV (i:=11) (N:=some 3) #[Y,Y,Y,Y,Y,Y,Y,Y,Y,Y,Y,Y] rfl rfl qT ?_
       refine done_ (done_of HT_.out (by kernel_rfl)) ?_
       try go_wp2
       go_roundg k1
       case measure => have:=HK1.out;omega
       case rel => exact ⟨(y235),(wrap64 (x9_1 + 1)),qq105,H',⟨qq118⟩,⟨by (with_reducible repeat (first | apply Kd.S_alloc | apply Kd.S_drewN | apply Kd.S_drew));exact Kd.S_mono HO237.out (fun _ hk => trivial)⟩,⟨qq43⟩⟩
      ·rw [if_neg c8] at H;exact absurd H (by simp)
     ·rw [if_neg c6] at H;exact absurd H (by simp)
    ·rw [if_neg c5] at H;exact absurd H (by simp)
   ·rw [if_neg c4] at H;have c4b0 : decide (x9_1 < (l0.length : Int)) = false:=decide_eq_false c4;clear c4;obtain rfl:=Option.some.inj H;go_wp2
    go_ret
    exact ⟨_,qq93,qq82,qq80⟩

section
open Go.Proofs.YtnghncedinngoaaW.PrintWords.Kd
variable {α : Type} {P : Program} {ops : Array Oper} {rest : List Oper} {o : Oper} {a : Act} {Q : Exit → Act → World → Prop} {Kc : Act → World → Prop}
/-- append(v[:k], v[k+1:]...), v a row told by any letter. -/
theorem del_w (d : Kd α) {w0 W : World} (base : Nat) (hgd : o.guard = none) (s x : Operand) (t e : TypeId) (ho : o.op = .call { callee := .builtin .append, args := #[s, x], argTypes := #[t, t] })
  (ht : P.underlying t = some (.slice e)) (hinfo : (P.info? e).map (·.size) = some d.sz) {n c k m c2 : Nat} {B A : Option Addr} {xs : List α} {ok : Nat → Prop}
  (hs : a.eval s = .slice B k c) (hx : a.eval x = .slice A m c2) (hA : A = if c = k + 1 then B else B.map (·.add ((k + 1) * d.sz))) (hm : m = n - (k + 1))
  (HO : d.R e W base ok (.slice B n c) xs) (hk : k < n) (HB : Below base w0 W) (hbase : base ≤ W.heap.size)
  (h : ∀ w1,d.R e w1 base ok (.slice B (n - 1) c) (xs.eraseIdx k) → Below base w0 w1 → W.grownBy w1 (Value.slice B n c).ownBlock → wpList P ops Q rest (a.put o.dst (.slice B (n - 1) c)) w1) : wpList P ops Q (o :: rest) a W:=by
 obtain ⟨g,cap,hv,_⟩:=R_form HO (by have:=(R_reads' HO).1;omega)
 injection hv with hB _ _
 subst hB
 exact R_delete d base hgd s x t e ho ht hinfo hs hx hA hm HO hk HB hbase (fun w1 h1 h2 h3 => h w1 h1 h2 h3)
theorem del_w_step (d : Kd α) {w0 W : World} (base : Nat) (hw : Region.wanted o (yielded ops a.tmps) = true) (s x : Operand) (t e : TypeId) (ho : o.op = .call { callee := .builtin .append, args := #[s, x], argTypes := #[t, t] })
  (ht : P.underlying t = some (.slice e)) (hinfo : (P.info? e).map (·.size) = some d.sz) {n c k m c2 : Nat} {B A : Option Addr} {xs : List α} {ok : Nat → Prop}
  (hs : a.eval s = .slice B k c) (hx : a.eval x = .slice A m c2) (hA : A = if c = k + 1 then B else B.map (·.add ((k + 1) * d.sz))) (hm : m = n - (k + 1))
  (HO : d.R e W base ok (.slice B n c) xs) (hk : k < n) (HB : Below base w0 W) (hbase : base ≤ W.heap.size)
  (h : ∀ w1,d.R e w1 base ok (.slice B (n - 1) c) (xs.eraseIdx k) → Below base w0 w1 → W.grownBy w1 (Value.slice B n c).ownBlock → Kc (a.put o.dst (.slice B (n - 1) c)) w1) :
  if Region.wanted o (yielded ops a.tmps) = true then Oper.wp P o a W Kc Q else Kc (a.put o.dst undef) W:=by
 obtain ⟨g,cap,hv,_⟩:=R_form HO (by have:=(R_reads' HO).1;omega)
 injection hv with hB _ _
 subst hB
 exact R_delete_step d base hw s x t e ho ht hinfo hs hx hA hm HO hk HB hbase (fun w1 h1 h2 h3 => h w1 h1 h2 h3)
end

end Go.Proofs.Ytnghncedinngoaa.PFnExactMoveTo
