/- Contracts of functions that the law FnTents reaches, for its row: lines that the kit's printer wrote for this claim, set shorter by a program of this session (own.py), and what fell in Lean proved anew. Lean checks them. -/
import Derived.Test.YtnghncedinngoaaSFnTentsx0
import Derived.Test.YtnghncedinngoaaSFnTentsx1
namespace Go.Proofs.Ytnghncedinngoaa.PFnTents
open Go.RowKit Go.Proofs.YtnghncedinngoaaW.PrintWords Go.Proofs.YtnghncedinngoaaW.PrintLast Go.Proofs.YtnghncedinngoaaW.PrintMore
attribute [local go_sem] max2_int min2_int max_two min_two max_three min_three max_four min_four   -- for this text's walks alone
set_option linter.unusedVariables false
set_option linter.unusedSimpArgs false

/-! ### impl_TentOf: function 23 -/
def impl_TentOf.l0 : Nat → Int → List (S45) → Int → Int → Option (Int)
 | 0,_,_,_,_ => none
 | k + 1,x1,x7,x8,x9 => if x9 < x8 then (if 0 ≤ x9 then (if x9 < (x7.length : Int) then ((impl_has.f k ((rd_T45 x7 x9).f2) x1).bind fun t119 => (if t119 = true then (some ((rd_T45 x7 x9).f0)) else (impl_TentOf.l0 k x1 x7 x8 (wrap64 (x9 + 1))))) else (none)) else (none)) else (some 0)
def impl_TentOf.f (k : Nat) (l0 : List (S45)) (a1 : Int) : Option (Int) := impl_TentOf.l0 k a1 l0 (l0.length : Int) 0
theorem impl_TentOf.mono_l : ∀ k, (∀ y0 y1 y2 y3, LeO (impl_TentOf.l0 k y0 y1 y2 y3) (impl_TentOf.l0 (k + 1) y0 y1 y2 y3))
 | 0 => fun _ _ _ _ r h => by simp [impl_TentOf.l0] at h
 | k + 1 => by
  have ih0:=impl_TentOf.mono_l k
  ·intro y0 y1 y2 y3
   unfold impl_TentOf.l0
   repeat' first
   | (with_reducible exact ih0 _ _ _ _)
   | (with_reducible exact impl_has.mono _ _ _)
   | (with_reducible exact LeO.refl _)
   | (with_reducible exact LeO.none _)
   | (with_reducible refine LeO.ite ?_ ?_)
   | (with_reducible refine LeO.bind ?_ (fun _ => ?_))
   | exact ih0 _ _ _ _
   | exact impl_has.mono _ _ _
   | exact LeO.none _
   | refine LeO.ite ?_ ?_
   | refine LeO.bind ?_ (fun _ => ?_)
theorem impl_TentOf.mono : ∀ a0 a1 k, LeO (impl_TentOf.f k a0 a1) (impl_TentOf.f (k + 1) a0 a1) := by
 intro a0 a1 k
 have ih0:=impl_TentOf.mono_l k
 unfold impl_TentOf.f
 repeat' first
   | (with_reducible exact ih0 _ _ _ _)
   | (with_reducible exact impl_has.mono _ _ _)
   | (with_reducible exact LeO.refl _)
   | (with_reducible exact LeO.none _)
   | (with_reducible refine LeO.ite ?_ ?_)
   | (with_reducible refine LeO.bind ?_ (fun _ => ?_))
   | exact ih0 _ _ _ _
   | exact impl_has.mono _ _ _
   | exact LeO.none _
   | refine LeO.ite ?_ ?_
   | refine LeO.bind ?_ (fun _ => ?_)
set_option maxHeartbeats 8000000 in
set_option maxRecDepth 100000 in
theorem impl_TentOf.calls (k : Nat) (A0 : Option Addr) (c0 : Nat) (l0 : List (S45)) (a1 : Int) (r : Int) (w : World) (hr0 : Kd.C k45 w A0 l0.length l0) (hc0 : l0.length ≤ c0) (h : impl_TentOf.f k l0 a1 = some r) :
  Calls Try.prog 23 #[.slice A0 l0.length c0,.int .i64 a1] w fun e w' => e = .returned (.int .i64 r) ∧ Below w.heap.size w w':=by
 have hu45:=Try.underlying45;have HR0:=am hr0;have HC0:=am hc0;clear hr0 hc0;have HB:=am qq135;have H : (impl_TentOf.l0 k a1 l0 (l0.length : Int) 0) = some r:=h;clear h;have H':=am H;clear H
 go_enter Try.func23,Try.ntmps23
 go_wp2
 go_loopg [9] k (fun kq v9 w' => ∃ (x9_1 : Int),v9 = .int .i64 x9_1 ∧ Aside0 (impl_TentOf.l0 kq a1 l0 (l0.length : Int) x9_1 = some r) ∧ Aside0 (kq ≤ k) ∧ Aside0 (Below w.heap.size w w'))
 case atStart => exact ⟨(0),qq95,H',⟨Nat.le_refl _⟩,⟨qq73⟩⟩
 case round =>
  clear H'
  try clear c2
  try clear p2
  obtain ⟨x9_1,rfl,HA,HK1,HB⟩:=hrel
  cases gk with
  | zero => exact absurd HA.out (by simp [impl_TentOf.l0])
  | succ k1 =>
   have H:=HA.out;clear HA;simp only [impl_TentOf.l0] at H
   by_cases c3 : x9_1 < (l0.length : Int)
   ·rw [if_pos c3] at H;have c3b0 : decide (x9_1 < (l0.length : Int)) = true:=decide_eq_true c3;clear c3
    by_cases c4 : 0 ≤ x9_1
    ·rw [if_pos c4] at H;have c4b0 : decide (0 ≤ x9_1) = true:=decide_eq_true c4;clear c4
     by_cases c5 : x9_1 < (l0.length : Int)
     ·rw [if_pos c5] at H;have c5b0 : decide (x9_1 < (l0.length : Int)) = true:=decide_eq_true c5;clear c5;replace H:=bS.mp H;obtain ⟨t119,A60,H⟩:=H;replace H : (if t119 = true then (some ((rd_T45 l0 x9_1).f0)) else (impl_TentOf.l0 k1 a1 l0 (l0.length : Int) (wrap64 (x9_1 + 1)))) = some r:=H;have A6:=am A60;clear A60
      by_cases c7 : t119 = true
      ·subst c7;have H1 : (some ((rd_T45 l0 x9_1).f0)) = some r:=by rw [if_pos rfl] at H;exact H
       clear H;have H:=H1;clear H1;obtain rfl:=Option.some.inj H;have p117 : 0 ≤ (x9_1 : Int):=odt qq94;have q117 : x9_1 < (l0.length : Int):=odt qq94;obtain ⟨ad117,A117_2,c117_2,e117,hx117_0,hx117_1,hx117_2,hl117_2,hi117_2⟩:=at_T45 HR0.out x9_1 p117 q117
       cases e117
       replace hx117_0:=(ct HB.out hx117_0 :)
       replace hx117_1:=(ct HB.out hx117_1 :)
       replace hx117_2:=(ct HB.out hx117_2 :)
       have HR117_2:=am hi117_2;have HC117_2:=am hl117_2;clear hi117_2 hl117_2;replace p117:=eq_true p117;replace q117:=eq_true q117;go_wp2_with (first | ((with_reducible refine gate_dst (N:=6) rfl ?_);refine box_event ?hg (N:=6) ?hd (cs:=#[.int .i64 0,.int .i64 0,.slice none 0 0]) (t:=45) ?hr ?_;(case hd => rfl);(case hg => rfl);(case hr => exact qq96);intro gb118 hg w8 hbox hb;have BK118:=am (hbox);have GW118:=am qq133;have GE118:=am qq133;replace HB:=am qq138;clear hb hbox hg;obtain ⟨hcz9_0,hcz9_1,hcz9_2,hfz9_0,hfz9_1,hfz9_2⟩:=bcl3 BK118.out) | ((with_reducible refine gate_callee (f:=42) rfl ?_);refine goesL_ (some 16) rfl rfl Try.func42 (by kernel_rfl) rfl #[.slice A117_2 ((rd_T45 l0 x9_1).f2).length c117_2,.int .i64 a1] rfl qq50 ?_;(with_reducible refine (impl_has.calls k1 _ _ ((rd_T45 l0 x9_1).f2) a1 true _ ?side1 ?side2 A6.out).mono ?_);(case side1 => exact qq19);(case side2 => exact HC117_2.out);rintro e w' ⟨rfl,⟨nd,rfl⟩⟩;refine ⟨_,rfl,?_⟩))
       go_ret
       exact ⟨qq81,qq48⟩
      ·replace c7:=Bool.eq_false_iff.mpr c7;subst c7;have H1 : (impl_TentOf.l0 k1 a1 l0 (l0.length : Int) (wrap64 (x9_1 + 1))) = some r:=by rw [if_neg (show ¬ (false = true) by decide)] at H;exact H
       clear H;have H:=H1;clear H1;have H':=am H;clear H;have p117 : 0 ≤ (x9_1 : Int):=odt qq94;have q117 : x9_1 < (l0.length : Int):=odt qq94;obtain ⟨ad117,A117_2,c117_2,e117,hx117_0,hx117_1,hx117_2,hl117_2,hi117_2⟩:=at_T45 HR0.out x9_1 p117 q117
       cases e117
       replace hx117_0:=(ct HB.out hx117_0 :)
       replace hx117_1:=(ct HB.out hx117_1 :)
       replace hx117_2:=(ct HB.out hx117_2 :)
       have HR117_2:=am hi117_2;have HC117_2:=am hl117_2;clear hi117_2 hl117_2;replace p117:=eq_true p117;replace q117:=eq_true q117;go_wp2_with (first | ((with_reducible refine gate_dst (N:=6) rfl ?_);refine box_event ?hg (N:=6) ?hd (cs:=#[.int .i64 0,.int .i64 0,.slice none 0 0]) (t:=45) ?hr ?_;(case hd => rfl);(case hg => rfl);(case hr => exact qq96);intro gb118 hg w10 hbox hb;have BK118:=am (hbox);have GW118:=am qq133;have GE118:=am qq133;replace HB:=am qq138;clear hb hbox hg;obtain ⟨hcz11_0,hcz11_1,hcz11_2,hfz11_0,hfz11_1,hfz11_2⟩:=bcl3 BK118.out) | ((with_reducible refine gate_callee (f:=42) rfl ?_);refine goesL_ (some 16) rfl rfl Try.func42 (by kernel_rfl) rfl #[.slice A117_2 ((rd_T45 l0 x9_1).f2).length c117_2,.int .i64 a1] rfl qq50 ?_;(with_reducible refine (impl_has.calls k1 _ _ ((rd_T45 l0 x9_1).f2) a1 false _ ?side1 ?side2 A6.out).mono ?_);(case side1 => exact qq19);(case side2 => exact HC117_2.out);rintro e w' ⟨rfl,⟨nd,rfl⟩⟩;refine ⟨_,rfl,?_⟩))
       go_roundg k1
       case measure => have:=HK1.out;omega
       case rel => exact ⟨(wrap64 (x9_1 + 1)),qq95,H',⟨qq107⟩,⟨qq48⟩⟩
     ·rw [if_neg c5] at H;exact absurd H (by simp)
    ·rw [if_neg c4] at H;exact absurd H (by simp)
   ·rw [if_neg c3] at H;have c3b0 : decide (x9_1 < (l0.length : Int)) = false:=decide_eq_false c3;clear c3;obtain rfl:=Option.some.inj H;go_wp2
    go_ret
    exact ⟨qq81,qq73⟩

/-! ### impl_copyOf: function 49 -/
def impl_copyOf.f (l0 : List Int) : Option (List Int) := (some (([] : List Int) : List Int)).bind fun y120 => (if y120.length + l0.length < 17592186044416 then (some (y120 ++ l0)) else (none))
set_option maxHeartbeats 8000000 in
set_option maxRecDepth 100000 in
theorem impl_copyOf.calls (A0 : Option Addr) (c0 : Nat) (l0 : List Int) (r : List Int) (w : World) (hr0 : Kd.C (Kd.int .i64) w A0 l0.length l0) (hc0 : l0.length ≤ c0) (h : impl_copyOf.f l0 = some r) :
  Calls Try.prog 49 #[.slice A0 l0.length c0] w fun e w' => ∃ v0_ : Value,e = .returned (v0_) ∧ Kd.R (Kd.int .i64) 3 w' w.heap.size (fun _ => True) v0_ r ∧ Below w.heap.size w w':=by
 have HR0:=am hr0;have HC0:=am hc0;clear hr0 hc0;have HB:=am qq135;have H : ((some (([] : List Int) : List Int)).bind fun y120 => (if y120.length + l0.length < 17592186044416 then (some (y120 ++ l0)) else (none))) = some r:=h;clear h;obtain ⟨y120,hy120⟩ : ∃ y_ : List Int,y_ = (([] : List Int)):=⟨_,rfl⟩
 replace H : (if y120.length + l0.length < 17592186044416 then (some (y120 ++ l0)) else (none)) = some r:=by first | (rw [hy120];with_reducible exact H) | (have H2_:=(Option.bind_some _ _).symm.trans H;rw [hy120];with_reducible exact H2_) | (have H2_:=(Option.bind_some _ _).symm.trans H;with_reducible exact H2_) | with_reducible exact H | (rw [hy120];exact H) | exact H
 have Ny120:=am hy120;clear hy120
 by_cases c2 : y120.length + l0.length < 17592186044416
 ·rw [if_pos c2] at H;have LMc2:=am c2;clear c2;obtain ⟨y123,hy123⟩ : ∃ y_ : List Int,y_ = (y120 ++ l0):=⟨_,rfl⟩
  replace H : (some y123) = some r:=by first | (rw [hy123];with_reducible exact H) | (have H2_:=(Option.bind_some _ _).symm.trans H;rw [hy123];with_reducible exact H2_) | (have H2_:=(Option.bind_some _ _).symm.trans H;with_reducible exact H2_) | with_reducible exact H | (rw [hy123];exact H) | exact H
  have Ny123:=am hy123;clear hy123;obtain rfl:=Option.some.inj H
  go_enter Try.func49,Try.ntmps49
  go_wp2_with (first | ((with_reducible refine gate_dst (N:=3) rfl ?_);refine Kd.R_lit (Kd.int .i64) _ 3 ?hg (N:=3) ?hd (xs:=([] : List Int)) (inner:=[]) (ok:=fun _ => True) (okp:=fun _ => True) ?hr ?hp (fun _ hk => hk) trivial (Below.refl _ _) (Nat.le_refl _) (by simp) ?_;(case hd => rfl);(case hg => rfl);(case hr => exact qq96);(case hp => exact qq106);intro v121 w3 ho4 hb hg_ hnew_;clear hg_ hnew_;(first | rw [← Ny120.out] at ho4 | (simp only [Int.reduceToNat] at ho4;rw [← Ny120.out] at ho4));have HO122:=am (Kd.R_lower ho4 (below_size qq73));replace HB:=am qq138;clear hb ho4) | ((with_reducible refine gate_builtin (b:=.append) (xs:=#[.tmp 3,.tmp 4]) rfl ?_);at_builtin;refine Kd.R_append_rows (Kd.int .i64) (w0:=w) w.heap.size rfl (.tmp 3) (.tmp 4) 43 3 (.int .i64 0) 8 rfl Try.underlying43 info3 rfl (by decide) (by omega) v121 y120 l0 _ _ _ (fun _ => True) (fun _ => False) rfl rfl ?aO ?aR (fun _ _ h => h) (fun _ h => h.elim) ?aF ?aB ?aS ?aL ?_;(case aR => exact qq29);(case aB => exact qq63);(case aF => exact qq105);(case aO => exact (by (with_reducible repeat (first | apply kA | apply kN | apply kD));exact HO122.out));(case aS => exact qq60);(case aL => have:=LMc2.out;omega);intro v124 w5 ho hb hg hat;rw [← Ny123.out] at ho;replace HB:=am (hb);have HO125:=am (ho);clear HO122;clear ho hb hg hat))
  go_ret
  exact ⟨_,qq81,by (with_reducible repeat (first | apply kA | apply kN | apply kD));exact HO125.out,qq73⟩
 ·rw [if_neg c2] at H;exact absurd H (by simp)

/-! ### impl_copyTents: function 30 -/
def impl_copyTents.l0 : Nat → List (S45) → List (S45) → Int → Int → Option ((List (S45)))
 | 0,_,_,_,_ => none
 | k + 1,x3,x7,x8,x9 => if x9 < x8 then (if 0 ≤ x9 then (if x9 < (x7.length : Int) then ((impl_copyOf.f ((rd_T45 x7 x9).f2)).bind fun t131 => (if x3.length < 3518437208883 then (impl_copyTents.l0 k (x3 ++ [(⟨(rd_T45 x7 x9).f0,(rd_T45 x7 x9).f1,t131⟩ : S45)]) x7 x8 (wrap64 (x9 + 1))) else (none))) else (none)) else (none)) else (some x3)
def impl_copyTents.f (k : Nat) (l0 : List (S45)) : Option ((List (S45))) := impl_copyTents.l0 k (([] : List (S45))) l0 (l0.length : Int) 0
theorem impl_copyTents.mono_l : ∀ k, (∀ y0 y1 y2 y3, LeO (impl_copyTents.l0 k y0 y1 y2 y3) (impl_copyTents.l0 (k + 1) y0 y1 y2 y3))
 | 0 => fun _ _ _ _ r h => by simp [impl_copyTents.l0] at h
 | k + 1 => by
  have ih0:=impl_copyTents.mono_l k
  ·intro y0 y1 y2 y3
   unfold impl_copyTents.l0
   repeat' first
   | (with_reducible exact ih0 _ _ _ _)
   | (with_reducible exact LeO.refl _)
   | (with_reducible exact LeO.none _)
   | (with_reducible refine LeO.ite ?_ ?_)
   | (with_reducible refine LeO.bind ?_ (fun _ => ?_))
   | exact ih0 _ _ _ _
   | exact LeO.none _
   | refine LeO.ite ?_ ?_
   | refine LeO.bind ?_ (fun _ => ?_)
theorem impl_copyTents.mono : ∀ a0 k, LeO (impl_copyTents.f k a0) (impl_copyTents.f (k + 1) a0) := by
 intro a0 k
 have ih0:=impl_copyTents.mono_l k
 unfold impl_copyTents.f
 repeat' first
   | (with_reducible exact ih0 _ _ _ _)
   | (with_reducible exact LeO.refl _)
   | (with_reducible exact LeO.none _)
   | (with_reducible refine LeO.ite ?_ ?_)
   | (with_reducible refine LeO.bind ?_ (fun _ => ?_))
   | exact ih0 _ _ _ _
   | exact LeO.none _
   | refine LeO.ite ?_ ?_
   | refine LeO.bind ?_ (fun _ => ?_)
def impl_copyTents.T5 : Bool × List (List Nat × List Nat) := (true, [([], []), ([], []), ([1], [1]), ([], []), ([3], [3]), ([], []), ([5], [5]), ([6], [6]), ([2, 4, 7], [2, 4, 7]), ([8], [8]), ([0, 9, 7], [0, 9]), ([10, 10, 0, 1, 2, 3, 4, 5, 6, 7, 8, 9, 10], [0, 10])])
def impl_copyTents.B5 : List Nat := [0, 0, 2, 0, 8, 0, 32, 96, 254, 510, 1023, 2047]
theorem impl_copyTents.tab5 : rtab .any (opsOf Try.f30 5) = impl_copyTents.T5 := by kernel_rfl
theorem impl_copyTents.bits5 : waitsOk impl_copyTents.T5.2 impl_copyTents.B5 = true := by kernel_rfl
set_option maxHeartbeats 8000000 in
set_option maxRecDepth 100000 in
theorem impl_copyTents.calls (k : Nat) (A0 : Option Addr) (c0 : Nat) (l0 : List (S45)) (r : List (S45)) (w : World) (hr0 : Kd.C k45 w A0 l0.length l0) (hc0 : l0.length ≤ c0) (h : impl_copyTents.f k l0 = some r) :
  Calls Try.prog 30 #[.slice A0 l0.length c0] w fun e w' => ∃ v0_ : Value,e = .returned (v0_) ∧ Kd.S k45 45 w' w.heap.size (fun _ => True) v0_ r ∧ Below w.heap.size w w':=by
 have hu45:=Try.underlying45;have HR0:=am hr0;have HC0:=am hc0;clear hr0 hc0;have HB:=am qq135;have H : (impl_copyTents.l0 k (([] : List (S45))) l0 (l0.length : Int) 0) = some r:=h;clear h;obtain ⟨y126,hy126⟩ : ∃ y_ : List (S45),y_ = (([] : List (S45))):=⟨_,rfl⟩
 replace H : (impl_copyTents.l0 k y126 l0 (l0.length : Int) 0) = some r:=by first | (rw [hy126];with_reducible exact H) | (have H2_:=(Option.bind_some _ _).symm.trans H;rw [hy126];with_reducible exact H2_) | (have H2_:=(Option.bind_some _ _).symm.trans H;with_reducible exact H2_) | with_reducible exact H | (rw [hy126];exact H) | exact H
 have Ny126:=am hy126;clear hy126;have H':=am H;clear H
 go_enter Try.func30,Try.ntmps30
 go_wp2_with (first | ((with_reducible refine gate_dst (N:=6) rfl ?_);refine Kd.S_lit k45 _ 45 ?hg (N:=6) ?hd (xs:=([] : List (S45))) (inner:=[]) (ok:=fun _ => True) (okp:=fun _ => True) ?hr ?hp (fun _ hk => hk) trivial (Below.refl _ _) (Nat.le_refl _) (by simp) ?_;(case hd => rfl);(case hg => rfl);(case hr => exact qq96);(case hp => exact qq106);intro v127 w2 ho3 hb hg_ hnew_;clear hg_ hnew_;(first | rw [← Ny126.out] at ho3 | (simp only [Int.reduceToNat] at ho3;rw [← Ny126.out] at ho3));have HO128:=am (Kd.S_lower ho3 (below_size qq73));replace HB:=am qq138;clear hb ho3))
 go_loopg [3,9] k (fun kq v3 v9 w' => ∃ (x3_1 : List (S45)) (x9_1 : Int),v9 = .int .i64 x9_1 ∧ Aside0 (impl_copyTents.l0 kq x3_1 l0 (l0.length : Int) x9_1 = some r) ∧ Aside0 (kq ≤ k) ∧ Aside0 (Kd.S k45 45 w' w.heap.size (fun _ => True) v3 x3_1) ∧ Aside0 (Below w.heap.size w w'))
 case atStart => exact ⟨(y126),(0),qq95,H',⟨Nat.le_refl _⟩,⟨by (with_reducible repeat (first | apply Kd.S_alloc | apply Kd.S_drewN | apply Kd.S_drew));exact HO128.out⟩,⟨qq73⟩⟩
 case round =>
  clear H'
  try clear p2
  try clear c3
  obtain ⟨x3_1,x9_1,rfl,HA,HK1,HO_3,HB⟩:=hrel
  cases gk with
  | zero => exact absurd HA.out (by simp [impl_copyTents.l0])
  | succ k1 =>
   have H:=HA.out;clear HA;simp only [impl_copyTents.l0] at H
   by_cases c4 : x9_1 < (l0.length : Int)
   ·rw [if_pos c4] at H;have c4b0 : decide (x9_1 < (l0.length : Int)) = true:=decide_eq_true c4;clear c4
    by_cases c5 : 0 ≤ x9_1
    ·rw [if_pos c5] at H;have c5b0 : decide (0 ≤ x9_1) = true:=decide_eq_true c5;clear c5
     by_cases c6 : x9_1 < (l0.length : Int)
     ·rw [if_pos c6] at H;have c6b0 : decide (x9_1 < (l0.length : Int)) = true:=decide_eq_true c6;clear c6;replace H:=bS.mp H;obtain ⟨t131,A70,H⟩:=H;replace H : (if x3_1.length < 3518437208883 then (impl_copyTents.l0 k1 (x3_1 ++ [(⟨(rd_T45 l0 x9_1).f0,(rd_T45 l0 x9_1).f1,t131⟩ : S45)]) l0 (l0.length : Int) (wrap64 (x9_1 + 1))) else (none)) = some r:=H;have A7:=am A70;clear A70
      by_cases c8 : x3_1.length < 3518437208883
      ·rw [if_pos c8] at H;have LMc8:=am c8;clear c8;obtain ⟨y134,hy134⟩ : ∃ y_ : List (S45),y_ = (x3_1 ++ [(⟨(rd_T45 l0 x9_1).f0,(rd_T45 l0 x9_1).f1,t131⟩ : S45)]):=⟨_,rfl⟩
       replace H : (impl_copyTents.l0 k1 y134 l0 (l0.length : Int) (wrap64 (x9_1 + 1))) = some r:=by first | (rw [hy134];with_reducible exact H) | (have H2_:=(Option.bind_some _ _).symm.trans H;rw [hy134];with_reducible exact H2_) | (have H2_:=(Option.bind_some _ _).symm.trans H;with_reducible exact H2_) | with_reducible exact H | (rw [hy134];exact H) | exact H
       have Ny134:=am hy134;clear hy134;have H':=am H;clear H;have p129 : 0 ≤ (x9_1 : Int):=odt qq94;have q129 : x9_1 < (l0.length : Int):=odt qq94;obtain ⟨ad129,A129_2,c129_2,e129,hx129_0,hx129_1,hx129_2,hl129_2,hi129_2⟩:=at_T45 HR0.out x9_1 p129 q129
       cases e129
       replace hx129_0:=(ct HB.out hx129_0 :)
       replace hx129_1:=(ct HB.out hx129_1 :)
       replace hx129_2:=(ct HB.out hx129_2 :)
       have HR129_2:=am hi129_2;have HC129_2:=am hl129_2;clear hi129_2 hl129_2;replace p129:=eq_true p129;replace q129:=eq_true q129
       try go_wp2_with (first | ((with_reducible refine gate_dst (N:=5) rfl ?_);refine box_event ?hg (N:=5) ?hd (cs:=#[.int .i64 0,.int .i64 0,.slice none 0 0]) (t:=45) ?hr ?_;(case hd => rfl);(case hg => rfl);(case hr => exact qq96);intro gb130 hg w9 hbox hb;replace HO_3:=am (Kd.S_below (Kd.S_elderB qq78 gb130 (Nat.le_of_eq hg.symm)) hb);have BK130:=am (hbox);have GW130:=am ((qq44 : w.heap.size ≤ gb130));have GE130:=am ((qq44 : w.heap.size ≤ gb130));replace HB:=am qq138;clear hb hbox hg;obtain ⟨hcz10_0,hcz10_1,hcz10_2,hfz10_0,hfz10_1,hfz10_2⟩:=bcl3 BK130.out))
       have n0_ : Aside0 (Kd.S k45 45 (((w9.setCell ⟨gb130,0,none⟩ (.int .i64 ((rd_T45 l0 x9_1).f0))).setCell ⟨gb130,1,none⟩ (.int .i64 ((rd_T45 l0 x9_1).f1))).setCell ⟨gb130,2,none⟩ (.slice A129_2 ((rd_T45 l0 x9_1).f2).length c129_2)) w.heap.size (fun k_ => k_ ≠ gb130) u3 x3_1):=⟨by (with_reducible repeat (first | apply Kd.S_alloc | apply Kd.S_drewN | apply Kd.S_drew));exact Kd.S_mono (Kd.S_far (p:=⟨gb130,2,none⟩) (Kd.S_far (p:=⟨gb130,1,none⟩) (Kd.S_far (p:=⟨gb130,0,none⟩) (Kd.S_mono HO_3.out (fun k_ hk => (⟨hk,hk.2⟩ : _ ∧ k_ ≠ gb130))) (fun _ hk => hk.2) (.int .i64 ((rd_T45 l0 x9_1).f0))) (fun _ hk => hk.2) (.int .i64 ((rd_T45 l0 x9_1).f1))) (fun _ hk => hk.2) (.slice A129_2 ((rd_T45 l0 x9_1).f2).length c129_2)) (fun _ hk => hk.1.2)⟩
       have n1_ : Aside0 ((((w9.setCell ⟨gb130,0,none⟩ (.int .i64 ((rd_T45 l0 x9_1).f0))).setCell ⟨gb130,1,none⟩ (.int .i64 ((rd_T45 l0 x9_1).f1))).setCell ⟨gb130,2,none⟩ (.slice A129_2 ((rd_T45 l0 x9_1).f2).length c129_2)).heap[gb130]? = some (.cells #[.int .i64 ((rd_T45 l0 x9_1).f0),.int .i64 ((rd_T45 l0 x9_1).f1),.slice A129_2 ((rd_T45 l0 x9_1).f2).length c129_2] 45 (0,0))):=⟨by (with_reducible repeat (first | refine dN ?_ _ | refine dD ?_ | refine dA ?_ _));refine blk_put (cs:=#[.int .i64 ((rd_T45 l0 x9_1).f0),.int .i64 ((rd_T45 l0 x9_1).f1),.slice none 0 0]) ?_ 2 _ rfl;(with_reducible repeat (first | refine dN ?_ _ | refine dD ?_ | refine dA ?_ _));refine blk_put (cs:=#[.int .i64 ((rd_T45 l0 x9_1).f0),.int .i64 0,.slice none 0 0]) ?_ 1 _ rfl;(with_reducible repeat (first | refine dN ?_ _ | refine dD ?_ | refine dA ?_ _));refine blk_put (cs:=#[.int .i64 0,.int .i64 0,.slice none 0 0]) ?_ 0 _ rfl;(with_reducible repeat (first | refine dN ?_ _ | refine dD ?_ | refine dA ?_ _));exact BK130.out⟩
       have n2_ : Aside0 (Below w.heap.size w (((w9.setCell ⟨gb130,0,none⟩ (.int .i64 ((rd_T45 l0 x9_1).f0))).setCell ⟨gb130,1,none⟩ (.int .i64 ((rd_T45 l0 x9_1).f1))).setCell ⟨gb130,2,none⟩ (.slice A129_2 ((rd_T45 l0 x9_1).f2).length c129_2))):=⟨qq47⟩
       (try clear HO_3);(try clear BK130);(try clear HB)
       generalize (((w9.setCell ⟨gb130,0,none⟩ (.int .i64 ((rd_T45 l0 x9_1).f0))).setCell ⟨gb130,1,none⟩ (.int .i64 ((rd_T45 l0 x9_1).f1))).setCell ⟨gb130,2,none⟩ (.slice A129_2 ((rd_T45 l0 x9_1).f2).length c129_2)) = w11 at n0_ n1_ n2_ ⊢
       have HO_3:=n0_;have BK130:=n1_;have HB:=n2_;clear n0_ n1_ n2_;replace HO_3:=am (Kd.S_drew HO_3.out);replace BK130:=am (blk_drew BK130.out);replace HB:=am qq141;refine start_ (n:=12) (S:=fun w' => w'.cell? ⟨gb130,0,none⟩ = some (.int .i64 ((rd_T45 l0 x9_1).f0)) ∧ w'.cell? ⟨gb130,1,none⟩ = some (.int .i64 ((rd_T45 l0 x9_1).f1)) ∧ w'.cell? ⟨gb130,2,none⟩ = some (.slice A129_2 ((rd_T45 l0 x9_1).f2).length c129_2)) (ds:=[]) #[Z,Z,Z,Z,Z,Z,Z,Z,Z,Z,Z,Z] (by kernel_rfl) rfl rfl ⟨(blk_cell BK130.out 0).trans rfl,(blk_cell BK130.out 1).trans rfl,(blk_cell BK130.out 2).trans rfl⟩ (fun hHeld => ?_);refine with_tabW impl_copyTents.tab5 impl_copyTents.bits5 (fun HT_ HW_ => ?_)
       generalize w11.drew = w12 at HO_3 BK130 HB hHeld ⊢
       refine pV (i:=0) (N:=some 13) #[Y,Z,Z,Z,Z,Z,Z,Z,Z,Z,Z,Z] rfl rfl qT ?_
       refine pV (i:=1) (N:=some 14) #[Y,Y,Z,Z,Z,Z,Z,Z,Z,Z,Z,Z] rfl rfl qT ?_
       refine pV (i:=3) (N:=some 16) #[Y,Y,Z,Y,Z,Z,Z,Z,Z,Z,Z,Z] rfl rfl qT ?_
       refine pV (i:=5) (N:=some 18) #[Y,Y,Z,Y,Z,Y,Z,Z,Z,Z,Z,Z] rfl rfl qT ?_
       refine tV3 (i:=2) (N:=some 15) #[Y,Y,Y,Y,Z,Y,Z,Z,Z,Z,Z,Z] rfl rfl (take_ofW HT_.out HW_.out (by kernel_rfl)) hHeld ?_
       refine tV3 (i:=4) (N:=some 17) #[Y,Y,Y,Y,Y,Y,Z,Z,Z,Z,Z,Z] rfl rfl (take_ofW HT_.out HW_.out (by kernel_rfl)) hHeld ?_
       refine tV3 (i:=6) (N:=some 19) #[Y,Y,Y,Y,Y,Y,Y,Z,Z,Z,Z,Z] rfl rfl (take_ofW HT_.out HW_.out (by kernel_rfl)) hHeld ?_
       refine one_ (i:=7) (N:=some 20) #[Y,Y,Y,Y,Y,Y,Y,Y,Z,Z,Z,Z] rfl rfl (one_of HT_.out (by kernel_rfl)) (by decide) (fun K hK => ?_);refine goes_ Try.func49 (by kernel_rfl) rfl #[.slice A129_2 ((rd_T45 l0 x9_1).f2).length c129_2] (by rfl) rfl rfl qq50 ?_;with_reducible refine (impl_copyOf.calls _ _ ((rd_T45 l0 x9_1).f2) t131 _ ?side1 ?side2 A7.out).mono ?_
       (case side1 => repeat (first | exact (Kd.C_below HR129_2.out HB.out) | (with_reducible refine cA ?_ _) | (with_reducible refine cN ?_ _) | (with_reducible refine cD ?_)));(case side2 => exact HC129_2.out)
       rintro e w13 ⟨v132,rfl,ho0,hb⟩
       refine ⟨_,rfl,?_⟩;replace HO_3:=am (Kd.S_elder' qq78 (Kd.R_base ho0) hb);have HO133:=am (Kd.R_lower ho0 (below_size qq47));replace BK130:=am (blk_below (g:=gb130) (o:=.cells #[.int .i64 ((rd_T45 l0 x9_1).f0),.int .i64 ((rd_T45 l0 x9_1).f1),.slice A129_2 ((rd_T45 l0 x9_1).f2).length c129_2] 45 (0,0)) qq79 hb);replace HB:=am (below_step qq47 hb);(try clear hb);(try clear hb2);(try clear hk);(try clear hi);(try clear ho0);obtain ⟨Ao14,co14,eo14⟩:=Kd.R_slice HO133.out;(first | subst eo14 | (injection eo14 with f1_ f2_ f3_;have f4_:=f1_.symm;have f5_:=f3_.symm;clear f1_ f2_ f3_;subst f4_;subst f5_));refine hK.out _ _ ⟨(blk_cell BK130.out 0).trans rfl,(blk_cell BK130.out 1).trans rfl,(blk_cell BK130.out 2).trans rfl⟩ (fun hHeld => ?_);clear hK K;refine norm_ (a':=?_) ?_ ?_;rotate_left
       ·show Act.put _ (some 20) _ = _
        simp only [Act.put,sA,s0,s1,i64_w,i32_w];rfl
       refine pV (i:=8) (N:=some 21) #[Y,Y,Y,Y,Y,Y,Y,Y,Y,Z,Z,Z] rfl rfl qT ?_
       refine one_ (i:=9) (N:=some 22) #[Y,Y,Y,Y,Y,Y,Y,Y,Y,Y,Z,Z] rfl rfl (one_of HT_.out (by kernel_rfl)) (by decide) (fun K hK => ?_);refine value_ (w1:=?_) (v:=?_) (by rfl) rfl ?_ ?_;rotate_left 2
       ·go_simp
        constructor
        ·rfl
        ·rfl
       refine hK.out _ _ ⟨(blk_cell (blk_alloc BK130.out _) 0).trans rfl,(blk_cell (blk_alloc BK130.out _) 1).trans rfl,(blk_cell (blk_alloc BK130.out _) 2).trans rfl⟩ (fun hHeld => ?_);clear hK K;refine norm_ (a':=?_) ?_ ?_;rotate_left
       ·show Act.put _ (some 22) _ = _
        simp only [Act.put,sA,s0,s1,i64_w,i32_w];rfl
       refine one_ (i:=10) (N:=some 23) #[Y,Y,Y,Y,Y,Y,Y,Y,Y,Y,Y,Z] rfl rfl (one_of HT_.out (by kernel_rfl)) (by decide) (fun K hK => ?_);refine Kd.S_append_step k45 (w0:=w) w.heap.size (by rfl) (.tmp 13) (.tmp 22) 24 45 (.agg #[(.int .i64 0),(.int .i64 0),(.slice none 0 0)]) 40 rfl Try.underlying24 info45 rfl (by decide) (by omega) u3 x3_1 (⟨(rd_T45 l0 x9_1).f0,(rd_T45 l0 x9_1).f1,t131⟩ : S45) [.int .i64 ((rd_T45 l0 x9_1).f0),.int .i64 ((rd_T45 l0 x9_1).f1),.slice Ao14 t131.length co14] (fun k_ => k_ ≠ gb130) (fun k_ => some k_ = (.slice Ao14 t131.length co14 : Value).ownBlock) rfl rfl ?aP (fun k_ hk_ => ((Kd.R_mono (ok':=fun k_ => ((fun k_ => k_ ≠ gb130)) k_ ∧ some k_ ≠ (u3 : Value).ownBlock) (Kd.R_types (Kd.R_apart' (HO133.out) (Kd.S_typed HO_3.out) (by decide)) BK130.out (by decide)) (fun k_ hk => ⟨hk.2,hk.1.2⟩))).1 k_ hk_.symm) ?aF ?aO ?aB ?aS ?aL ?_;(case aP => exact k45_mkM _ _ _ (⟨(rd_T45 l0 x9_1).f0,(rd_T45 l0 x9_1).f1,t131⟩ : S45) (Kd.R_mono (Kd.R_tight rfl (Kd.R_mono (ok':=fun k_ => ((fun k_ => k_ ≠ gb130)) k_ ∧ some k_ ≠ (u3 : Value).ownBlock) (Kd.R_types (Kd.R_apart' (HO133.out) (Kd.S_typed HO_3.out) (by decide)) BK130.out (by decide)) (fun k_ hk => ⟨hk.2,hk.1.2⟩))) (fun _ h_ => h_)));(case aB => exact qq47);(case aF => exact (fun k_ hk => Kd.freshB (g:=gb130) (o:=.cells #[.int .i64 ((rd_T45 l0 x9_1).f0),.int .i64 ((rd_T45 l0 x9_1).f1),.slice A129_2 ((rd_T45 l0 x9_1).f2).length c129_2] 45 (0,0)) qq79 k_ hk));(case aO => exact (by (with_reducible repeat (first | apply Kd.S_alloc | apply Kd.S_drewN | apply Kd.S_drew));exact Kd.S_mono HO_3.out (fun k_ hk => ⟨hk.1,fun e_ => hk.2 e_⟩)));(case aS => exact (below_size qq47));(case aL => have:=LMc8.out;omega);intro v135 w15 ho hb hg hat;rw [← Ny134.out] at ho;replace BK130:=am (blk_grown (g:=gb130) (o:=.cells #[.int .i64 ((rd_T45 l0 x9_1).f0),.int .i64 ((rd_T45 l0 x9_1).f1),.slice A129_2 ((rd_T45 l0 x9_1).f2).length c129_2] 45 (0,0)) qq79 hg (Kd.S_away HO_3.out (fun _ hk => hk.1)));replace HB:=am (hb);have HO136:=am (ho);clear HO_3 HO133;clear ho hb hg hat;refine hK.out _ _ ⟨(blk_cell BK130.out 0).trans rfl,(blk_cell BK130.out 1).trans rfl,(blk_cell BK130.out 2).trans rfl⟩ (fun hHeld => ?_);clear hK K;refine norm_ (a':=?_) ?_ ?_;rotate_left
       ·show Act.put _ (some 23) _ = _
        simp only [Act.put,sA,s0,s1,i64_w,i32_w];rfl
       refine pV (i:=11) (N:=some 3) #[Y,Y,Y,Y,Y,Y,Y,Y,Y,Y,Y,Y] rfl rfl qT ?_
       refine done_ (done_of HT_.out (by kernel_rfl)) ?_
       try go_wp2
       go_roundg k1
       case measure => have:=HK1.out;omega
       case rel => exact ⟨(y134),(wrap64 (x9_1 + 1)),qq95,H',⟨qq107⟩,⟨by (with_reducible repeat (first | apply Kd.S_alloc | apply Kd.S_drewN | apply Kd.S_drew));exact Kd.S_mono HO136.out (fun _ hk => trivial)⟩,⟨qq47⟩⟩
      ·rw [if_neg c8] at H;exact absurd H (by simp)
     ·rw [if_neg c6] at H;exact absurd H (by simp)
    ·rw [if_neg c5] at H;exact absurd H (by simp)
   ·rw [if_neg c4] at H;have c4b0 : decide (x9_1 < (l0.length : Int)) = false:=decide_eq_false c4;clear c4;obtain rfl:=Option.some.inj H;go_wp2
    go_ret
    exact ⟨_,qq81,qq78,qq73⟩

section
open Go.Proofs.YtnghncedinngoaaW.PrintWords.Kd
variable {α : Type} {P : Program} {ops : Array Oper} {rest : List Oper} {o : Oper} {a : Act} {Q : Exit → Act → World → Prop} {Kc : Act → World → Prop}
/-- append(v[:k], v[k+1:]...), v a row told by any letter. -/
theorem del_w (d : Kd α) {w0 W : World} (base : Nat) (hgd : o.guard = none) (s x : Operand) (t e : TypeId) (ho : o.op = .call { callee := .builtin .append, args := #[s, x], argTypes := #[t, t] })
  (ht : P.underlying t = some (.slice e)) (hinfo : (P.info? e).map (·.size) = some d.sz) {n c k m c2 : Nat} {B A : Option Addr} {xs : List α} {ok : Nat → Prop}
  (hs : a.eval s = .slice B k c) (hx : a.eval x = .slice A m c2) (hA : A = if c = k + 1 then B else B.map (·.add ((k + 1) * d.sz))) (hm : m = n - (k + 1))
  (HO : d.R e W base ok (.slice B n c) xs) (hk : k < n) (HB : Below base w0 W) (hbase : base ≤ W.heap.size)
  (h : ∀ w1,d.R e w1 base ok (.slice B (n - 1) c) (xs.eraseIdx k) → Below base w0 w1 → W.grownBy w1 (Value.slice B n c).ownBlock → wpList P ops Q rest (a.put o.dst (.slice B (n - 1) c)) w1) : wpList P ops Q (o :: rest) a W:=by
 obtain ⟨g,cap,hv,_⟩:=R_form HO (by have:=(R_reads' HO).1;omega)
 injection hv with hB _ _
 subst hB
 exact R_delete d base hgd s x t e ho ht hinfo hs hx hA hm HO hk HB hbase (fun w1 h1 h2 h3 => h w1 h1 h2 h3)
theorem del_w_step (d : Kd α) {w0 W : World} (base : Nat) (hw : Region.wanted o (yielded ops a.tmps) = true) (s x : Operand) (t e : TypeId) (ho : o.op = .call { callee := .builtin .append, args := #[s, x], argTypes := #[t, t] })
  (ht : P.underlying t = some (.slice e)) (hinfo : (P.info? e).map (·.size) = some d.sz) {n c k m c2 : Nat} {B A : Option Addr} {xs : List α} {ok : Nat → Prop}
  (hs : a.eval s = .slice B k c) (hx : a.eval x = .slice A m c2) (hA : A = if c = k + 1 then B else B.map (·.add ((k + 1) * d.sz))) (hm : m = n - (k + 1))
  (HO : d.R e W base ok (.slice B n c) xs) (hk : k < n) (HB : Below base w0 W) (hbase : base ≤ W.heap.size)
  (h : ∀ w1,d.R e w1 base ok (.slice B (n - 1) c) (xs.eraseIdx k) → Below base w0 w1 → W.grownBy w1 (Value.slice B n c).ownBlock → Kc (a.put o.dst (.slice B (n - 1) c)) w1) :
  if Region.wanted o (yielded ops a.tmps) = true then Oper.wp P o a W Kc Q else Kc (a.put o.dst undef) W:=by
 obtain ⟨g,cap,hv,_⟩:=R_form HO (by have:=(R_reads' HO).1;omega)
 injection hv with hB _ _
 subst hB
 exact R_delete_step d base hw s x t e ho ht hinfo hs hx hA hm HO hk HB hbase (fun w1 h1 h2 h3 => h w1 h1 h2 h3)
end

end Go.Proofs.Ytnghncedinngoaa.PFnTents
