/- Contracts of functions that the law FnExactPutUp reaches, for its row: lines that the kit's printer wrote for this claim, set shorter by a program of this session (own.py), and what fell in Lean proved anew. Lean checks them. -/
import Derived.Test.YtnghncedinngoaaSFnExactPutUpx0
import Derived.Test.YtnghncedinngoaaSFnExactPutUpx8
namespace Go.Proofs.Ytnghncedinngoaa.PFnExactPutUp
open Go.RowKit Go.Proofs.YtnghncedinngoaaW.PrintWords Go.Proofs.YtnghncedinngoaaW.PrintLast Go.Proofs.YtnghncedinngoaaW.PrintMore
attribute [local go_sem] max2_int min2_int max_two min_two max_three min_three max_four min_four   -- for this text's walks alone
set_option linter.unusedVariables false
set_option linter.unusedSimpArgs false

/-! ### impl_BedsFree: function 22 -/
def impl_BedsFree.l0 : Nat → Int → List (S45) → Int → Int → Option (Int)
 | 0,_,_,_,_ => none
 | k + 1,x3,x9,x10,x11 => if x11 < x10 then (if 0 ≤ x11 then (if x11 < (x9.length : Int) then (impl_BedsFree.l0 k (wrap64 (x3 + (wrap64 (((rd_T45 x9 x11).f1) - (((rd_T45 x9 x11).f2).length : Int))))) x9 x10 (wrap64 (x11 + 1))) else (none)) else (none)) else (some x3)
def impl_BedsFree.f (k : Nat) (l0 : List (S45)) : Option (Int) := (impl_AreTents.f k l0).bind fun t241 => (if t241 = true then (impl_BedsFree.l0 k 0 l0 (l0.length : Int) 0) else (some 0))
theorem impl_BedsFree.mono_l : ∀ k, (∀ y0 y1 y2 y3, LeO (impl_BedsFree.l0 k y0 y1 y2 y3) (impl_BedsFree.l0 (k + 1) y0 y1 y2 y3))
 | 0 => fun _ _ _ _ r h => by simp [impl_BedsFree.l0] at h
 | k + 1 => by
  have ih0:=impl_BedsFree.mono_l k
  ·intro y0 y1 y2 y3
   unfold impl_BedsFree.l0
   repeat' first
   | (with_reducible exact ih0 _ _ _ _)
   | (with_reducible exact impl_AreTents.mono _ _)
   | (with_reducible exact LeO.refl _)
   | (with_reducible exact LeO.none _)
   | (with_reducible refine LeO.ite ?_ ?_)
   | (with_reducible refine LeO.bind ?_ (fun _ => ?_))
   | exact ih0 _ _ _ _
   | exact impl_AreTents.mono _ _
   | exact LeO.none _
   | refine LeO.ite ?_ ?_
   | refine LeO.bind ?_ (fun _ => ?_)
theorem impl_BedsFree.mono : ∀ a0 k, LeO (impl_BedsFree.f k a0) (impl_BedsFree.f (k + 1) a0) := by
 intro a0 k
 have ih0:=impl_BedsFree.mono_l k
 unfold impl_BedsFree.f
 repeat' first
   | (with_reducible exact ih0 _ _ _ _)
   | (with_reducible exact impl_AreTents.mono _ _)
   | (with_reducible exact LeO.refl _)
   | (with_reducible exact LeO.none _)
   | (with_reducible refine LeO.ite ?_ ?_)
   | (with_reducible refine LeO.bind ?_ (fun _ => ?_))
   | exact ih0 _ _ _ _
   | exact impl_AreTents.mono _ _
   | exact LeO.none _
   | refine LeO.ite ?_ ?_
   | refine LeO.bind ?_ (fun _ => ?_)
set_option maxHeartbeats 8000000 in
set_option maxRecDepth 100000 in
theorem impl_BedsFree.calls (k : Nat) (A0 : Option Addr) (c0 : Nat) (l0 : List (S45)) (r : Int) (w : World) (hr0 : Kd.C k45 w A0 l0.length l0) (hc0 : l0.length ≤ c0) (h : impl_BedsFree.f k l0 = some r) :
  Calls Try.prog 22 #[.slice A0 l0.length c0] w fun e w' => e = .returned (.int .i64 r) ∧ Below w.heap.size w w':=by
 have hu45:=Try.underlying45;have HR0:=am hr0;have HC0:=am hc0;clear hr0 hc0;have HB:=am qq130;have H : ((impl_AreTents.f k l0).bind fun t241 => (if t241 = true then (impl_BedsFree.l0 k 0 l0 (l0.length : Int) 0) else (some 0))) = some r:=h;clear h;replace H:=bS.mp H;obtain ⟨t241,A20,H⟩:=H;replace H : (if t241 = true then (impl_BedsFree.l0 k 0 l0 (l0.length : Int) 0) else (some 0)) = some r:=H;have A2:=am A20;clear A20
 by_cases c3 : t241 = true
 ·subst c3;have H1 : (impl_BedsFree.l0 k 0 l0 (l0.length : Int) 0) = some r:=by rw [if_pos rfl] at H;exact H
  clear H;have H:=H1;clear H1;have H':=am H;clear H
  go_enter Try.func22,Try.ntmps22
  go_wp2_with (first | ((with_reducible refine gate_callee (f:=21) rfl ?_);refine goesL_ (some 7) rfl rfl Try.func21 (by kernel_rfl) rfl #[.slice A0 l0.length c0] rfl qq60 ?_;(with_reducible refine (impl_AreTents.calls k _ _ l0 true _ ?side1 ?side2 A2.out).mono ?_);(case side1 => exact qq61);(case side2 => exact HC0.out);rintro e w4 ⟨rfl,hb⟩;refine ⟨_,rfl,?_⟩;replace HB:=am qq133;(try clear hb);(try clear hb2);(try clear hk);(try clear hi)))
  go_loopg [3,11] k (fun kq v3 v11 w' => ∃ (x3_1 : Int) (x11_1 : Int),v3 = .int .i64 x3_1 ∧ v11 = .int .i64 x11_1 ∧ Aside0 (impl_BedsFree.l0 kq x3_1 l0 (l0.length : Int) x11_1 = some r) ∧ Aside0 (kq ≤ k) ∧ Aside0 (Below w.heap.size w w'))
  case atStart => exact ⟨(0),(0),qq101,qq101,H',⟨Nat.le_refl _⟩,⟨qq71⟩⟩
  case round =>
   clear H'
   try clear c2
   try clear p2
   try clear c3
   obtain ⟨x3_1,x11_1,rfl,rfl,HA,HK1,HB⟩:=hrel
   cases gk with
   | zero => exact absurd HA.out (by simp [impl_BedsFree.l0])
   | succ k1 =>
    have H:=HA.out;clear HA;simp only [impl_BedsFree.l0] at H
    by_cases c5 : x11_1 < (l0.length : Int)
    ·rw [if_pos c5] at H;have c5b0 : decide (x11_1 < (l0.length : Int)) = true:=decide_eq_true c5;clear c5
     by_cases c6 : 0 ≤ x11_1
     ·rw [if_pos c6] at H;have c6b0 : decide (0 ≤ x11_1) = true:=decide_eq_true c6;clear c6
      by_cases c7 : x11_1 < (l0.length : Int)
      ·rw [if_pos c7] at H;have c7b0 : decide (x11_1 < (l0.length : Int)) = true:=decide_eq_true c7;clear c7;have H':=am H;clear H;have p242 : 0 ≤ (x11_1 : Int):=odt qq100;have q242 : x11_1 < (l0.length : Int):=odt qq100;obtain ⟨ad242,A242_2,c242_2,e242,hx242_0,hx242_1,hx242_2,hl242_2,hi242_2⟩:=at_T45 HR0.out x11_1 p242 q242
       cases e242
       replace hx242_0:=(ct HB.out hx242_0 :)
       replace hx242_1:=(ct HB.out hx242_1 :)
       replace hx242_2:=(ct HB.out hx242_2 :)
       have HR242_2:=am hi242_2;have HC242_2:=am hl242_2;clear hi242_2 hl242_2;replace p242:=eq_true p242;replace q242:=eq_true q242;go_wp2_with (first | ((with_reducible refine gate_dst (N:=5) rfl ?_);refine box_event ?hg (N:=5) ?hd (cs:=#[.int .i64 0,.int .i64 0,.slice none 0 0]) (t:=45) ?hr ?_;(case hd => rfl);(case hg => rfl);(case hr => exact qq103);intro gb243 hg w8 hbox hb;have BK243:=am (hbox);have GW243:=am ((qq49 : w.heap.size ≤ gb243));have GE243:=am ((qq49 : w.heap.size ≤ gb243));replace HB:=am qq133;clear hb hbox hg;obtain ⟨hcz9_0,hcz9_1,hcz9_2,hfz9_0,hfz9_1,hfz9_2⟩:=bcl3 BK243.out))
       go_roundg k1
       case measure => have:=HK1.out;omega
       case rel => exact ⟨(wrap64 (x3_1 + (wrap64 (((rd_T45 l0 x11_1).f1) - (((rd_T45 l0 x11_1).f2).length : Int))))),(wrap64 (x11_1 + 1)),qq101,qq101,H',⟨qq108⟩,⟨by repeat (first | (with_reducible first | exact HB.out | apply bA | apply bN | apply bD | refine below_set ?_ GE243.out) | exact HB.out)⟩⟩
      ·rw [if_neg c7] at H;exact absurd H (by simp)
     ·rw [if_neg c6] at H;exact absurd H (by simp)
    ·rw [if_neg c5] at H;have c5b0 : decide (x11_1 < (l0.length : Int)) = false:=decide_eq_false c5;clear c5;obtain rfl:=Option.some.inj H;go_wp2
     go_ret
     exact ⟨qq89,qq71⟩
 ·replace c3:=Bool.eq_false_iff.mpr c3;subst c3;have H1 : (some 0) = some r:=by rw [if_neg (show ¬ (false = true) by decide)] at H;exact H
  clear H;have H:=H1;clear H1;obtain rfl:=Option.some.inj H
  go_enter Try.func22,Try.ntmps22
  go_wp2_with (first | ((with_reducible refine gate_callee (f:=21) rfl ?_);refine goesL_ (some 7) rfl rfl Try.func21 (by kernel_rfl) rfl #[.slice A0 l0.length c0] rfl qq60 ?_;(with_reducible refine (impl_AreTents.calls k _ _ l0 false _ ?side1 ?side2 A2.out).mono ?_);(case side1 => exact qq61);(case side2 => exact HC0.out);rintro e w10 ⟨rfl,hb⟩;refine ⟨_,rfl,?_⟩;replace HB:=am qq133;(try clear hb);(try clear hb2);(try clear hk);(try clear hi)))
  go_ret
  exact ⟨qq89,qq71⟩

/-! ### impl_copyOf: function 49 -/
def impl_copyOf.f (l0 : List Int) : Option (List Int) := (some (([] : List Int) : List Int)).bind fun y244 => (if y244.length + l0.length < 17592186044416 then (some (y244 ++ l0)) else (none))
set_option maxHeartbeats 8000000 in
set_option maxRecDepth 100000 in
theorem impl_copyOf.calls (A0 : Option Addr) (c0 : Nat) (l0 : List Int) (r : List Int) (w : World) (hr0 : Kd.C (Kd.int .i64) w A0 l0.length l0) (hc0 : l0.length ≤ c0) (h : impl_copyOf.f l0 = some r) :
  Calls Try.prog 49 #[.slice A0 l0.length c0] w fun e w' => ∃ v0_ : Value,e = .returned (v0_) ∧ Kd.R (Kd.int .i64) 3 w' w.heap.size (fun _ => True) v0_ r ∧ Below w.heap.size w w':=by
 have HR0:=am hr0;have HC0:=am hc0;clear hr0 hc0;have HB:=am qq130;have H : ((some (([] : List Int) : List Int)).bind fun y244 => (if y244.length + l0.length < 17592186044416 then (some (y244 ++ l0)) else (none))) = some r:=h;clear h;obtain ⟨y244,hy244⟩ : ∃ y_ : List Int,y_ = (([] : List Int)):=⟨_,rfl⟩
 replace H : (if y244.length + l0.length < 17592186044416 then (some (y244 ++ l0)) else (none)) = some r:=by first | (rw [hy244];with_reducible exact H) | (have H2_:=(Option.bind_some _ _).symm.trans H;rw [hy244];with_reducible exact H2_) | (have H2_:=(Option.bind_some _ _).symm.trans H;with_reducible exact H2_) | with_reducible exact H | (rw [hy244];exact H) | exact H
 have Ny244:=am hy244;clear hy244
 by_cases c2 : y244.length + l0.length < 17592186044416
 ·rw [if_pos c2] at H;have LMc2:=am c2;clear c2;obtain ⟨y247,hy247⟩ : ∃ y_ : List Int,y_ = (y244 ++ l0):=⟨_,rfl⟩
  replace H : (some y247) = some r:=by first | (rw [hy247];with_reducible exact H) | (have H2_:=(Option.bind_some _ _).symm.trans H;rw [hy247];with_reducible exact H2_) | (have H2_:=(Option.bind_some _ _).symm.trans H;with_reducible exact H2_) | with_reducible exact H | (rw [hy247];exact H) | exact H
  have Ny247:=am hy247;clear hy247;obtain rfl:=Option.some.inj H
  go_enter Try.func49,Try.ntmps49
  go_wp2_with (first | ((with_reducible refine gate_dst (N:=3) rfl ?_);refine Kd.R_lit (Kd.int .i64) _ 3 ?hg (N:=3) ?hd (xs:=([] : List Int)) (inner:=[]) (ok:=fun _ => True) (okp:=fun _ => True) ?hr ?hp (fun _ hk => hk) trivial (Below.refl _ _) (Nat.le_refl _) (by simp) ?_;(case hd => rfl);(case hg => rfl);(case hr => exact qq103);(case hp => exact qq107);intro v245 w3 ho4 hb hg_ hnew_;clear hg_ hnew_;(first | rw [← Ny244.out] at ho4 | (simp only [Int.reduceToNat] at ho4;rw [← Ny244.out] at ho4));have HO246:=am (Kd.R_lower ho4 (below_size qq71));replace HB:=am qq133;clear hb ho4) | ((with_reducible refine gate_builtin (b:=.append) (xs:=#[.tmp 3,.tmp 4]) rfl ?_);at_builtin;refine Kd.R_append_rows (Kd.int .i64) (w0:=w) w.heap.size rfl (.tmp 3) (.tmp 4) 43 3 (.int .i64 0) 8 rfl Try.underlying43 info3 rfl (by decide) (by omega) v245 y244 l0 _ _ _ (fun _ => True) (fun _ => False) rfl rfl ?aO ?aR (fun _ _ h => h) (fun _ h => h.elim) ?aF ?aB ?aS ?aL ?_;(case aR => exact qq41);(case aB => exact qq69);(case aF => exact qq106);(case aO => exact (by (with_reducible repeat (first | apply kA | apply kN | apply kD));exact HO246.out));(case aS => exact qq66);(case aL => have:=LMc2.out;omega);intro v248 w5 ho hb hg hat;rw [← Ny247.out] at ho;replace HB:=am (hb);have HO249:=am (ho);clear HO246;clear ho hb hg hat))
  go_ret
  exact ⟨_,qq89,by (with_reducible repeat (first | apply kA | apply kN | apply kD));exact HO249.out,qq71⟩
 ·rw [if_neg c2] at H;exact absurd H (by simp)

/-! ### impl_copyTents: function 30 -/
def impl_copyTents.l0 : Nat → List (S45) → List (S45) → Int → Int → Option ((List (S45)))
 | 0,_,_,_,_ => none
 | k + 1,x3,x7,x8,x9 => if x9 < x8 then (if 0 ≤ x9 then (if x9 < (x7.length : Int) then ((impl_copyOf.f ((rd_T45 x7 x9).f2)).bind fun t255 => (if x3.length < 3518437208883 then (impl_copyTents.l0 k (x3 ++ [(⟨(rd_T45 x7 x9).f0,(rd_T45 x7 x9).f1,t255⟩ : S45)]) x7 x8 (wrap64 (x9 + 1))) else (none))) else (none)) else (none)) else (some x3)
def impl_copyTents.f (k : Nat) (l0 : List (S45)) : Option ((List (S45))) := impl_copyTents.l0 k (([] : List (S45))) l0 (l0.length : Int) 0
theorem impl_copyTents.mono_l : ∀ k, (∀ y0 y1 y2 y3, LeO (impl_copyTents.l0 k y0 y1 y2 y3) (impl_copyTents.l0 (k + 1) y0 y1 y2 y3))
 | 0 => fun _ _ _ _ r h => by simp [impl_copyTents.l0] at h
 | k + 1 => by
  have ih0:=impl_copyTents.mono_l k
  ·intro y0 y1 y2 y3
   unfold impl_copyTents.l0
   repeat' first
   | (with_reducible exact ih0 _ _ _ _)
   | (with_reducible exact LeO.refl _)
   | (with_reducible exact LeO.none _)
   | (with_reducible refine LeO.ite ?_ ?_)
   | (with_reducible refine LeO.bind ?_ (fun _ => ?_))
   | exact ih0 _ _ _ _
   | exact LeO.none _
   | refine LeO.ite ?_ ?_
   | refine LeO.bind ?_ (fun _ => ?_)
theorem impl_copyTents.mono : ∀ a0 k, LeO (impl_copyTents.f k a0) (impl_copyTents.f (k + 1) a0) := by
 intro a0 k
 have ih0:=impl_copyTents.mono_l k
 unfold impl_copyTents.f
 repeat' first
   | (with_reducible exact ih0 _ _ _ _)
   | (with_reducible exact LeO.refl _)
   | (with_reducible exact LeO.none _)
   | (with_reducible refine LeO.ite ?_ ?_)
   | (with_reducible refine LeO.bind ?_ (fun _ => ?_))
   | exact ih0 _ _ _ _
   | exact LeO.none _
   | refine LeO.ite ?_ ?_
   | refine LeO.bind ?_ (fun _ => ?_)
def impl_copyTents.T5 : Bool × List (List Nat × List Nat) := (true, [([], []), ([], []), ([1], [1]), ([], []), ([3], [3]), ([], []), ([5], [5]), ([6], [6]), ([2, 4, 7], [2, 4, 7]), ([8], [8]), ([0, 9, 7], [0, 9]), ([10, 10, 0, 1, 2, 3, 4, 5, 6, 7, 8, 9, 10], [0, 10])])
def impl_copyTents.B5 : List Nat := [0, 0, 2, 0, 8, 0, 32, 96, 254, 510, 1023, 2047]
theorem impl_copyTents.tab5 : rtab .any (opsOf Try.f30 5) = impl_copyTents.T5 := by kernel_rfl
theorem impl_copyTents.bits5 : waitsOk impl_copyTents.T5.2 impl_copyTents.B5 = true := by kernel_rfl
set_option maxHeartbeats 8000000 in
set_option maxRecDepth 100000 in
theorem impl_copyTents.calls (k : Nat) (A0 : Option Addr) (c0 : Nat) (l0 : List (S45)) (r : List (S45)) (w : World) (hr0 : Kd.C k45 w A0 l0.length l0) (hc0 : l0.length ≤ c0) (h : impl_copyTents.f k l0 = some r) :
  Calls Try.prog 30 #[.slice A0 l0.length c0] w fun e w' => ∃ v0_ : Value,e = .returned (v0_) ∧ Kd.S k45 45 w' w.heap.size (fun _ => True) v0_ r ∧ Below w.heap.size w w':=by
 have hu45:=Try.underlying45;have HR0:=am hr0;have HC0:=am hc0;clear hr0 hc0;have HB:=am qq130;have H : (impl_copyTents.l0 k (([] : List (S45))) l0 (l0.length : Int) 0) = some r:=h;clear h;obtain ⟨y250,hy250⟩ : ∃ y_ : List (S45),y_ = (([] : List (S45))):=⟨_,rfl⟩
 replace H : (impl_copyTents.l0 k y250 l0 (l0.length : Int) 0) = some r:=by first | (rw [hy250];with_reducible exact H) | (have H2_:=(Option.bind_some _ _).symm.trans H;rw [hy250];with_reducible exact H2_) | (have H2_:=(Option.bind_some _ _).symm.trans H;with_reducible exact H2_) | with_reducible exact H | (rw [hy250];exact H) | exact H
 have Ny250:=am hy250;clear hy250;have H':=am H;clear H
 go_enter Try.func30,Try.ntmps30
 go_wp2_with (first | ((with_reducible refine gate_dst (N:=6) rfl ?_);refine Kd.S_lit k45 _ 45 ?hg (N:=6) ?hd (xs:=([] : List (S45))) (inner:=[]) (ok:=fun _ => True) (okp:=fun _ => True) ?hr ?hp (fun _ hk => hk) trivial (Below.refl _ _) (Nat.le_refl _) (by simp) ?_;(case hd => rfl);(case hg => rfl);(case hr => exact qq103);(case hp => exact qq107);intro v251 w2 ho3 hb hg_ hnew_;clear hg_ hnew_;(first | rw [← Ny250.out] at ho3 | (simp only [Int.reduceToNat] at ho3;rw [← Ny250.out] at ho3));have HO252:=am (Kd.S_lower ho3 (below_size qq71));replace HB:=am qq133;clear hb ho3))
 go_loopg [3,9] k (fun kq v3 v9 w' => ∃ (x3_1 : List (S45)) (x9_1 : Int),v9 = .int .i64 x9_1 ∧ Aside0 (impl_copyTents.l0 kq x3_1 l0 (l0.length : Int) x9_1 = some r) ∧ Aside0 (kq ≤ k) ∧ Aside0 (Kd.S k45 45 w' w.heap.size (fun _ => True) v3 x3_1) ∧ Aside0 (Below w.heap.size w w'))
 case atStart => exact ⟨(y250),(0),qq101,H',⟨Nat.le_refl _⟩,⟨by (with_reducible repeat (first | apply Kd.S_alloc | apply Kd.S_drewN | apply Kd.S_drew));exact HO252.out⟩,⟨qq71⟩⟩
 case round =>
  clear H'
  try clear p2
  try clear c3
  obtain ⟨x3_1,x9_1,rfl,HA,HK1,HO_3,HB⟩:=hrel
  cases gk with
  | zero => exact absurd HA.out (by simp [impl_copyTents.l0])
  | succ k1 =>
   have H:=HA.out;clear HA;simp only [impl_copyTents.l0] at H
   by_cases c4 : x9_1 < (l0.length : Int)
   ·rw [if_pos c4] at H;have c4b0 : decide (x9_1 < (l0.length : Int)) = true:=decide_eq_true c4;clear c4
    by_cases c5 : 0 ≤ x9_1
    ·rw [if_pos c5] at H;have c5b0 : decide (0 ≤ x9_1) = true:=decide_eq_true c5;clear c5
     by_cases c6 : x9_1 < (l0.length : Int)
     ·rw [if_pos c6] at H;have c6b0 : decide (x9_1 < (l0.length : Int)) = true:=decide_eq_true c6;clear c6;replace H:=bS.mp H;obtain ⟨t255,A70,H⟩:=H;replace H : (if x3_1.length < 3518437208883 then (impl_copyTents.l0 k1 (x3_1 ++ [(⟨(rd_T45 l0 x9_1).f0,(rd_T45 l0 x9_1).f1,t255⟩ : S45)]) l0 (l0.length : Int) (wrap64 (x9_1 + 1))) else (none)) = some r:=H;have A7:=am A70;clear A70
      by_cases c8 : x3_1.length < 3518437208883
      ·rw [if_pos c8] at H;have LMc8:=am c8;clear c8;obtain ⟨y258,hy258⟩ : ∃ y_ : List (S45),y_ = (x3_1 ++ [(⟨(rd_T45 l0 x9_1).f0,(rd_T45 l0 x9_1).f1,t255⟩ : S45)]):=⟨_,rfl⟩
       replace H : (impl_copyTents.l0 k1 y258 l0 (l0.length : Int) (wrap64 (x9_1 + 1))) = some r:=by first | (rw [hy258];with_reducible exact H) | (have H2_:=(Option.bind_some _ _).symm.trans H;rw [hy258];with_reducible exact H2_) | (have H2_:=(Option.bind_some _ _).symm.trans H;with_reducible exact H2_) | with_reducible exact H | (rw [hy258];exact H) | exact H
       have Ny258:=am hy258;clear hy258;have H':=am H;clear H;have p253 : 0 ≤ (x9_1 : Int):=odt qq100;have q253 : x9_1 < (l0.length : Int):=odt qq100;obtain ⟨ad253,A253_2,c253_2,e253,hx253_0,hx253_1,hx253_2,hl253_2,hi253_2⟩:=at_T45 HR0.out x9_1 p253 q253
       cases e253
       replace hx253_0:=(ct HB.out hx253_0 :)
       replace hx253_1:=(ct HB.out hx253_1 :)
       replace hx253_2:=(ct HB.out hx253_2 :)
       have HR253_2:=am hi253_2;have HC253_2:=am hl253_2;clear hi253_2 hl253_2;replace p253:=eq_true p253;replace q253:=eq_true q253
       try go_wp2_with (first | ((with_reducible refine gate_dst (N:=5) rfl ?_);refine box_event ?hg (N:=5) ?hd (cs:=#[.int .i64 0,.int .i64 0,.slice none 0 0]) (t:=45) ?hr ?_;(case hd => rfl);(case hg => rfl);(case hr => exact qq103);intro gb254 hg w9 hbox hb;replace HO_3:=am (Kd.S_below (Kd.S_elderB qq73 gb254 (Nat.le_of_eq hg.symm)) hb);have BK254:=am (hbox);have GW254:=am ((qq49 : w.heap.size ≤ gb254));have GE254:=am ((qq49 : w.heap.size ≤ gb254));replace HB:=am qq133;clear hb hbox hg;obtain ⟨hcz10_0,hcz10_1,hcz10_2,hfz10_0,hfz10_1,hfz10_2⟩:=bcl3 BK254.out))
       have n0_ : Aside0 (Kd.S k45 45 (((w9.setCell ⟨gb254,0,none⟩ (.int .i64 ((rd_T45 l0 x9_1).f0))).setCell ⟨gb254,1,none⟩ (.int .i64 ((rd_T45 l0 x9_1).f1))).setCell ⟨gb254,2,none⟩ (.slice A253_2 ((rd_T45 l0 x9_1).f2).length c253_2)) w.heap.size (fun k_ => k_ ≠ gb254) u3 x3_1):=⟨by (with_reducible repeat (first | apply Kd.S_alloc | apply Kd.S_drewN | apply Kd.S_drew));exact Kd.S_mono (Kd.S_far (p:=⟨gb254,2,none⟩) (Kd.S_far (p:=⟨gb254,1,none⟩) (Kd.S_far (p:=⟨gb254,0,none⟩) (Kd.S_mono HO_3.out (fun k_ hk => (⟨hk,hk.2⟩ : _ ∧ k_ ≠ gb254))) (fun _ hk => hk.2) (.int .i64 ((rd_T45 l0 x9_1).f0))) (fun _ hk => hk.2) (.int .i64 ((rd_T45 l0 x9_1).f1))) (fun _ hk => hk.2) (.slice A253_2 ((rd_T45 l0 x9_1).f2).length c253_2)) (fun _ hk => hk.1.2)⟩
       have n1_ : Aside0 ((((w9.setCell ⟨gb254,0,none⟩ (.int .i64 ((rd_T45 l0 x9_1).f0))).setCell ⟨gb254,1,none⟩ (.int .i64 ((rd_T45 l0 x9_1).f1))).setCell ⟨gb254,2,none⟩ (.slice A253_2 ((rd_T45 l0 x9_1).f2).length c253_2)).heap[gb254]? = some (.cells #[.int .i64 ((rd_T45 l0 x9_1).f0),.int .i64 ((rd_T45 l0 x9_1).f1),.slice A253_2 ((rd_T45 l0 x9_1).f2).length c253_2] 45 (0,0))):=⟨by (with_reducible repeat (first | refine dN ?_ _ | refine dD ?_ | refine dA ?_ _));refine blk_put (cs:=#[.int .i64 ((rd_T45 l0 x9_1).f0),.int .i64 ((rd_T45 l0 x9_1).f1),.slice none 0 0]) ?_ 2 _ rfl;(with_reducible repeat (first | refine dN ?_ _ | refine dD ?_ | refine dA ?_ _));refine blk_put (cs:=#[.int .i64 ((rd_T45 l0 x9_1).f0),.int .i64 0,.slice none 0 0]) ?_ 1 _ rfl;(with_reducible repeat (first | refine dN ?_ _ | refine dD ?_ | refine dA ?_ _));refine blk_put (cs:=#[.int .i64 0,.int .i64 0,.slice none 0 0]) ?_ 0 _ rfl;(with_reducible repeat (first | refine dN ?_ _ | refine dD ?_ | refine dA ?_ _));exact BK254.out⟩
       have n2_ : Aside0 (Below w.heap.size w (((w9.setCell ⟨gb254,0,none⟩ (.int .i64 ((rd_T45 l0 x9_1).f0))).setCell ⟨gb254,1,none⟩ (.int .i64 ((rd_T45 l0 x9_1).f1))).setCell ⟨gb254,2,none⟩ (.slice A253_2 ((rd_T45 l0 x9_1).f2).length c253_2))):=⟨qq54⟩
       (try clear HO_3);(try clear BK254);(try clear HB)
       generalize (((w9.setCell ⟨gb254,0,none⟩ (.int .i64 ((rd_T45 l0 x9_1).f0))).setCell ⟨gb254,1,none⟩ (.int .i64 ((rd_T45 l0 x9_1).f1))).setCell ⟨gb254,2,none⟩ (.slice A253_2 ((rd_T45 l0 x9_1).f2).length c253_2)) = w11 at n0_ n1_ n2_ ⊢
       have HO_3:=n0_;have BK254:=n1_;have HB:=n2_;clear n0_ n1_ n2_;replace HO_3:=am (Kd.S_drew HO_3.out);replace BK254:=am (blk_drew BK254.out);replace HB:=am qq134;refine start_ (n:=12) (S:=fun w' => w'.cell? ⟨gb254,0,none⟩ = some (.int .i64 ((rd_T45 l0 x9_1).f0)) ∧ w'.cell? ⟨gb254,1,none⟩ = some (.int .i64 ((rd_T45 l0 x9_1).f1)) ∧ w'.cell? ⟨gb254,2,none⟩ = some (.slice A253_2 ((rd_T45 l0 x9_1).f2).length c253_2)) (ds:=[]) #[Z,Z,Z,Z,Z,Z,Z,Z,Z,Z,Z,Z] (by kernel_rfl) rfl rfl ⟨(blk_cell BK254.out 0).trans rfl,(blk_cell BK254.out 1).trans rfl,(blk_cell BK254.out 2).trans rfl⟩ (fun hHeld => ?_);refine with_tabW impl_copyTents.tab5 impl_copyTents.bits5 (fun HT_ HW_ => ?_)
       generalize w11.drew = w12 at HO_3 BK254 HB hHeld ⊢
       refine pV (i:=0) (N:=some 13) #[Y,Z,Z,Z,Z,Z,Z,Z,Z,Z,Z,Z] rfl rfl qT ?_
       refine pV (i:=1) (N:=some 14) #[Y,Y,Z,Z,Z,Z,Z,Z,Z,Z,Z,Z] rfl rfl qT ?_
       refine pV (i:=3) (N:=some 16) #[Y,Y,Z,Y,Z,Z,Z,Z,Z,Z,Z,Z] rfl rfl qT ?_
       refine pV (i:=5) (N:=some 18) #[Y,Y,Z,Y,Z,Y,Z,Z,Z,Z,Z,Z] rfl rfl qT ?_
       refine tV3 (i:=2) (N:=some 15) #[Y,Y,Y,Y,Z,Y,Z,Z,Z,Z,Z,Z] rfl rfl (take_ofW HT_.out HW_.out (by kernel_rfl)) hHeld ?_
       refine tV3 (i:=4) (N:=some 17) #[Y,Y,Y,Y,Y,Y,Z,Z,Z,Z,Z,Z] rfl rfl (take_ofW HT_.out HW_.out (by kernel_rfl)) hHeld ?_
       refine tV3 (i:=6) (N:=some 19) #[Y,Y,Y,Y,Y,Y,Y,Z,Z,Z,Z,Z] rfl rfl (take_ofW HT_.out HW_.out (by kernel_rfl)) hHeld ?_
       refine one_ (i:=7) (N:=some 20) #[Y,Y,Y,Y,Y,Y,Y,Y,Z,Z,Z,Z] rfl rfl (one_of HT_.out (by kernel_rfl)) (by decide) (fun K hK => ?_);refine goes_ Try.func49 (by kernel_rfl) rfl #[.slice A253_2 ((rd_T45 l0 x9_1).f2).length c253_2] (by rfl) rfl rfl qq60 ?_;with_reducible refine (impl_copyOf.calls _ _ ((rd_T45 l0 x9_1).f2) t255 _ ?side1 ?side2 A7.out).mono ?_
       (case side1 => repeat (first | exact (Kd.C_below HR253_2.out HB.out) | (with_reducible refine cA ?_ _) | (with_reducible refine cN ?_ _) | (with_reducible refine cD ?_)));(case side2 => exact HC253_2.out)
       rintro e w13 ⟨v256,rfl,ho0,hb⟩
       refine ⟨_,rfl,?_⟩;replace HO_3:=am (Kd.S_elder' qq73 (Kd.R_base ho0) hb);have HO257:=am (Kd.R_lower ho0 (below_size qq54));replace BK254:=am (blk_below (g:=gb254) (o:=.cells #[.int .i64 ((rd_T45 l0 x9_1).f0),.int .i64 ((rd_T45 l0 x9_1).f1),.slice A253_2 ((rd_T45 l0 x9_1).f2).length c253_2] 45 (0,0)) qq82 hb);replace HB:=am (below_step qq54 hb);(try clear hb);(try clear hb2);(try clear hk);(try clear hi);(try clear ho0);obtain ⟨Ao14,co14,eo14⟩:=Kd.R_slice HO257.out;(first | subst eo14 | (injection eo14 with f1_ f2_ f3_;have f4_:=f1_.symm;have f5_:=f3_.symm;clear f1_ f2_ f3_;subst f4_;subst f5_));refine hK.out _ _ ⟨(blk_cell BK254.out 0).trans rfl,(blk_cell BK254.out 1).trans rfl,(blk_cell BK254.out 2).trans rfl⟩ (fun hHeld => ?_);clear hK K;refine norm_ (a':=?_) ?_ ?_;rotate_left
       ·show Act.put _ (some 20) _ = _
        simp only [Act.put,sA,s0,s1,i64_w,i32_w];rfl
       refine pV (i:=8) (N:=some 21) #[Y,Y,Y,Y,Y,Y,Y,Y,Y,Z,Z,Z] rfl rfl qT ?_
       refine one_ (i:=9) (N:=some 22) #[Y,Y,Y,Y,Y,Y,Y,Y,Y,Y,Z,Z] rfl rfl (one_of HT_.out (by kernel_rfl)) (by decide) (fun K hK => ?_);refine value_ (w1:=?_) (v:=?_) (by rfl) rfl ?_ ?_;rotate_left 2
       ·go_simp
        constructor
        ·rfl
        ·rfl
       refine hK.out _ _ ⟨(blk_cell (blk_alloc BK254.out _) 0).trans rfl,(blk_cell (blk_alloc BK254.out _) 1).trans rfl,(blk_cell (blk_alloc BK254.out _) 2).trans rfl⟩ (fun hHeld => ?_);clear hK K;refine norm_ (a':=?_) ?_ ?_;rotate_left
       ·show Act.put _ (some 22) _ = _
        simp only [Act.put,sA,s0,s1,i64_w,i32_w];rfl
       refine one_ (i:=10) (N:=some 23) #[Y,Y,Y,Y,Y,Y,Y,Y,Y,Y,Y,Z] rfl rfl (one_of HT_.out (by kernel_rfl)) (by decide) (fun K hK => ?_);refine Kd.S_append_step k45 (w0:=w) w.heap.size (by rfl) (.tmp 13) (.tmp 22) 24 45 (.agg #[(.int .i64 0),(.int .i64 0),(.slice none 0 0)]) 40 rfl Try.underlying24 info45 rfl (by decide) (by omega) u3 x3_1 (⟨(rd_T45 l0 x9_1).f0,(rd_T45 l0 x9_1).f1,t255⟩ : S45) [.int .i64 ((rd_T45 l0 x9_1).f0),.int .i64 ((rd_T45 l0 x9_1).f1),.slice Ao14 t255.length co14] (fun k_ => k_ ≠ gb254) (fun k_ => some k_ = (.slice Ao14 t255.length co14 : Value).ownBlock) rfl rfl ?aP (fun k_ hk_ => ((Kd.R_mono (ok':=fun k_ => ((fun k_ => k_ ≠ gb254)) k_ ∧ some k_ ≠ (u3 : Value).ownBlock) (Kd.R_types (Kd.R_apart' (HO257.out) (Kd.S_typed HO_3.out) (by decide)) BK254.out (by decide)) (fun k_ hk => ⟨hk.2,hk.1.2⟩))).1 k_ hk_.symm) ?aF ?aO ?aB ?aS ?aL ?_;(case aP => exact k45_mkM _ _ _ (⟨(rd_T45 l0 x9_1).f0,(rd_T45 l0 x9_1).f1,t255⟩ : S45) (Kd.R_mono (Kd.R_tight rfl (Kd.R_mono (ok':=fun k_ => ((fun k_ => k_ ≠ gb254)) k_ ∧ some k_ ≠ (u3 : Value).ownBlock) (Kd.R_types (Kd.R_apart' (HO257.out) (Kd.S_typed HO_3.out) (by decide)) BK254.out (by decide)) (fun k_ hk => ⟨hk.2,hk.1.2⟩))) (fun _ h_ => h_)));(case aB => exact qq54);(case aF => exact (fun k_ hk => Kd.freshB (g:=gb254) (o:=.cells #[.int .i64 ((rd_T45 l0 x9_1).f0),.int .i64 ((rd_T45 l0 x9_1).f1),.slice A253_2 ((rd_T45 l0 x9_1).f2).length c253_2] 45 (0,0)) qq82 k_ hk));(case aO => exact (by (with_reducible repeat (first | apply Kd.S_alloc | apply Kd.S_drewN | apply Kd.S_drew));exact Kd.S_mono HO_3.out (fun k_ hk => ⟨hk.1,fun e_ => hk.2 e_⟩)));(case aS => exact (below_size qq54));(case aL => have:=LMc8.out;omega);intro v259 w15 ho hb hg hat;rw [← Ny258.out] at ho;replace BK254:=am (blk_grown (g:=gb254) (o:=.cells #[.int .i64 ((rd_T45 l0 x9_1).f0),.int .i64 ((rd_T45 l0 x9_1).f1),.slice A253_2 ((rd_T45 l0 x9_1).f2).length c253_2] 45 (0,0)) qq82 hg (Kd.S_away HO_3.out (fun _ hk => hk.1)));replace HB:=am (hb);have HO260:=am (ho);clear HO_3 HO257;clear ho hb hg hat;refine hK.out _ _ ⟨(blk_cell BK254.out 0).trans rfl,(blk_cell BK254.out 1).trans rfl,(blk_cell BK254.out 2).trans rfl⟩ (fun hHeld => ?_);clear hK K;refine norm_ (a':=?_) ?_ ?_;rotate_left
       ·show Act.put _ (some 23) _ = _
        simp only [Act.put,sA,s0,s1,i64_w,i32_w];rfl
       refine pV (i:=11) (N:=some 3) #[Y,Y,Y,Y,Y,Y,Y,Y,Y,Y,Y,Y] rfl rfl qT ?_
       refine done_ (done_of HT_.out (by kernel_rfl)) ?_
       try go_wp2
       go_roundg k1
       case measure => have:=HK1.out;omega
       case rel => exact ⟨(y258),(wrap64 (x9_1 + 1)),qq101,H',⟨qq108⟩,⟨by (with_reducible repeat (first | apply Kd.S_alloc | apply Kd.S_drewN | apply Kd.S_drew));exact Kd.S_mono HO260.out (fun _ hk => trivial)⟩,⟨qq54⟩⟩
      ·rw [if_neg c8] at H;exact absurd H (by simp)
     ·rw [if_neg c6] at H;exact absurd H (by simp)
    ·rw [if_neg c5] at H;exact absurd H (by simp)
   ·rw [if_neg c4] at H;have c4b0 : decide (x9_1 < (l0.length : Int)) = false:=decide_eq_false c4;clear c4;obtain rfl:=Option.some.inj H;go_wp2
    go_ret
    exact ⟨_,qq89,qq73,qq71⟩

end Go.Proofs.Ytnghncedinngoaa.PFnExactPutUp
