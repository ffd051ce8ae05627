/- Contracts of functions that the law FnTents reaches, for its row: lines that the kit's printer wrote for this claim, set shorter by a program of this session (own.py), and what fell in Lean proved anew. Lean checks them. -/
import Derived.Test.YtnghncedinngoaaSFnTentsx0
import Derived.Test.YtnghncedinngoaaSFnTentsx2
namespace Go.Proofs.Ytnghncedinngoaa.PFnTents
open Go.RowKit Go.Proofs.YtnghncedinngoaaW.PrintWords Go.Proofs.YtnghncedinngoaaW.PrintLast Go.Proofs.YtnghncedinngoaaW.PrintMore
attribute [local go_sem] max2_int min2_int max_two min_two max_three min_three max_four min_four   -- for this text's walks alone
set_option linter.unusedVariables false
set_option linter.unusedSimpArgs false

/-! ### impl_BedsFree: function 22 -/
def impl_BedsFree.l0 : Nat → Int → List (S45) → Int → Int → Option (Int)
 | 0,_,_,_,_ => none
 | k + 1,x3,x9,x10,x11 => if x11 < x10 then (if 0 ≤ x11 then (if x11 < (x9.length : Int) then (impl_BedsFree.l0 k (wrap64 (x3 + (wrap64 (((rd_T45 x9 x11).f1) - (((rd_T45 x9 x11).f2).length : Int))))) x9 x10 (wrap64 (x11 + 1))) else (none)) else (none)) else (some x3)
def impl_BedsFree.f (k : Nat) (l0 : List (S45)) : Option (Int) := (impl_AreTents.f k l0).bind fun t170 => (if t170 = true then (impl_BedsFree.l0 k 0 l0 (l0.length : Int) 0) else (some 0))
theorem impl_BedsFree.mono_l : ∀ k, (∀ y0 y1 y2 y3, LeO (impl_BedsFree.l0 k y0 y1 y2 y3) (impl_BedsFree.l0 (k + 1) y0 y1 y2 y3))
 | 0 => fun _ _ _ _ r h => by simp [impl_BedsFree.l0] at h
 | k + 1 => by
  have ih0:=impl_BedsFree.mono_l k
  ·intro y0 y1 y2 y3
   unfold impl_BedsFree.l0
   repeat' first
   | (with_reducible exact ih0 _ _ _ _)
   | (with_reducible exact impl_AreTents.mono _ _)
   | (with_reducible exact LeO.refl _)
   | (with_reducible exact LeO.none _)
   | (with_reducible refine LeO.ite ?_ ?_)
   | (with_reducible refine LeO.bind ?_ (fun _ => ?_))
   | exact ih0 _ _ _ _
   | exact impl_AreTents.mono _ _
   | exact LeO.none _
   | refine LeO.ite ?_ ?_
   | refine LeO.bind ?_ (fun _ => ?_)
theorem impl_BedsFree.mono : ∀ a0 k, LeO (impl_BedsFree.f k a0) (impl_BedsFree.f (k + 1) a0) := by
 intro a0 k
 have ih0:=impl_BedsFree.mono_l k
 unfold impl_BedsFree.f
 repeat' first
   | (with_reducible exact ih0 _ _ _ _)
   | (with_reducible exact impl_AreTents.mono _ _)
   | (with_reducible exact LeO.refl _)
   | (with_reducible exact LeO.none _)
   | (with_reducible refine LeO.ite ?_ ?_)
   | (with_reducible refine LeO.bind ?_ (fun _ => ?_))
   | exact ih0 _ _ _ _
   | exact impl_AreTents.mono _ _
   | exact LeO.none _
   | refine LeO.ite ?_ ?_
   | refine LeO.bind ?_ (fun _ => ?_)
set_option maxHeartbeats 8000000 in
set_option maxRecDepth 100000 in
theorem impl_BedsFree.calls (k : Nat) (A0 : Option Addr) (c0 : Nat) (l0 : List (S45)) (r : Int) (w : World) (hr0 : Kd.C k45 w A0 l0.length l0) (hc0 : l0.length ≤ c0) (h : impl_BedsFree.f k l0 = some r) :
  Calls Try.prog 22 #[.slice A0 l0.length c0] w fun e w' => e = .returned (.int .i64 r) ∧ Below w.heap.size w w':=by
 have hu45:=Try.underlying45;have HR0:=am hr0;have HC0:=am hc0;clear hr0 hc0;have HB:=am qq135;have H : ((impl_AreTents.f k l0).bind fun t170 => (if t170 = true then (impl_BedsFree.l0 k 0 l0 (l0.length : Int) 0) else (some 0))) = some r:=h;clear h;replace H:=bS.mp H;obtain ⟨t170,A20,H⟩:=H;replace H : (if t170 = true then (impl_BedsFree.l0 k 0 l0 (l0.length : Int) 0) else (some 0)) = some r:=H;have A2:=am A20;clear A20
 by_cases c3 : t170 = true
 ·subst c3;have H1 : (impl_BedsFree.l0 k 0 l0 (l0.length : Int) 0) = some r:=by rw [if_pos rfl] at H;exact H
  clear H;have H:=H1;clear H1;have H':=am H;clear H
  go_enter Try.func22,Try.ntmps22
  go_wp2_with (first | ((with_reducible refine gate_callee (f:=21) rfl ?_);refine goesL_ (some 7) rfl rfl Try.func21 (by kernel_rfl) rfl #[.slice A0 l0.length c0] rfl qq50 ?_;(with_reducible refine (impl_AreTents.calls k _ _ l0 true _ ?side1 ?side2 A2.out).mono ?_);(case side1 => exact qq51);(case side2 => exact HC0.out);rintro e w4 ⟨rfl,hb⟩;refine ⟨_,rfl,?_⟩;replace HB:=am qq138;(try clear hb);(try clear hb2);(try clear hk);(try clear hi)))
  go_loopg [3,11] k (fun kq v3 v11 w' => ∃ (x3_1 : Int) (x11_1 : Int),v3 = .int .i64 x3_1 ∧ v11 = .int .i64 x11_1 ∧ Aside0 (impl_BedsFree.l0 kq x3_1 l0 (l0.length : Int) x11_1 = some r) ∧ Aside0 (kq ≤ k) ∧ Aside0 (Below w.heap.size w w'))
  case atStart => exact ⟨(0),(0),qq95,qq95,H',⟨Nat.le_refl _⟩,⟨qq73⟩⟩
  case round =>
   clear H'
   try clear c2
   try clear p2
   try clear c3
   obtain ⟨x3_1,x11_1,rfl,rfl,HA,HK1,HB⟩:=hrel
   cases gk with
   | zero => exact absurd HA.out (by simp [impl_BedsFree.l0])
   | succ k1 =>
    have H:=HA.out;clear HA;simp only [impl_BedsFree.l0] at H
    by_cases c5 : x11_1 < (l0.length : Int)
    ·rw [if_pos c5] at H;have c5b0 : decide (x11_1 < (l0.length : Int)) = true:=decide_eq_true c5;clear c5
     by_cases c6 : 0 ≤ x11_1
     ·rw [if_pos c6] at H;have c6b0 : decide (0 ≤ x11_1) = true:=decide_eq_true c6;clear c6
      by_cases c7 : x11_1 < (l0.length : Int)
      ·rw [if_pos c7] at H;have c7b0 : decide (x11_1 < (l0.length : Int)) = true:=decide_eq_true c7;clear c7;have H':=am H;clear H;have p171 : 0 ≤ (x11_1 : Int):=odt qq94;have q171 : x11_1 < (l0.length : Int):=odt qq94;obtain ⟨ad171,A171_2,c171_2,e171,hx171_0,hx171_1,hx171_2,hl171_2,hi171_2⟩:=at_T45 HR0.out x11_1 p171 q171
       cases e171
       replace hx171_0:=(ct HB.out hx171_0 :)
       replace hx171_1:=(ct HB.out hx171_1 :)
       replace hx171_2:=(ct HB.out hx171_2 :)
       have HR171_2:=am hi171_2;have HC171_2:=am hl171_2;clear hi171_2 hl171_2;replace p171:=eq_true p171;replace q171:=eq_true q171;go_wp2_with (first | ((with_reducible refine gate_dst (N:=5) rfl ?_);refine box_event ?hg (N:=5) ?hd (cs:=#[.int .i64 0,.int .i64 0,.slice none 0 0]) (t:=45) ?hr ?_;(case hd => rfl);(case hg => rfl);(case hr => exact qq96);intro gb172 hg w8 hbox hb;have BK172:=am (hbox);have GW172:=am ((qq44 : w.heap.size ≤ gb172));have GE172:=am ((qq44 : w.heap.size ≤ gb172));replace HB:=am qq138;clear hb hbox hg;obtain ⟨hcz9_0,hcz9_1,hcz9_2,hfz9_0,hfz9_1,hfz9_2⟩:=bcl3 BK172.out))
       go_roundg k1
       case measure => have:=HK1.out;omega
       case rel => exact ⟨(wrap64 (x3_1 + (wrap64 (((rd_T45 l0 x11_1).f1) - (((rd_T45 l0 x11_1).f2).length : Int))))),(wrap64 (x11_1 + 1)),qq95,qq95,H',⟨qq107⟩,⟨by repeat (first | (with_reducible first | exact HB.out | apply bA | apply bN | apply bD | refine below_set ?_ GE172.out) | exact HB.out)⟩⟩
      ·rw [if_neg c7] at H;exact absurd H (by simp)
     ·rw [if_neg c6] at H;exact absurd H (by simp)
    ·rw [if_neg c5] at H;have c5b0 : decide (x11_1 < (l0.length : Int)) = false:=decide_eq_false c5;clear c5;obtain rfl:=Option.some.inj H;go_wp2
     go_ret
     exact ⟨qq81,qq73⟩
 ·replace c3:=Bool.eq_false_iff.mpr c3;subst c3;have H1 : (some 0) = some r:=by rw [if_neg (show ¬ (false = true) by decide)] at H;exact H
  clear H;have H:=H1;clear H1;obtain rfl:=Option.some.inj H
  go_enter Try.func22,Try.ntmps22
  go_wp2_with (first | ((with_reducible refine gate_callee (f:=21) rfl ?_);refine goesL_ (some 7) rfl rfl Try.func21 (by kernel_rfl) rfl #[.slice A0 l0.length c0] rfl qq50 ?_;(with_reducible refine (impl_AreTents.calls k _ _ l0 false _ ?side1 ?side2 A2.out).mono ?_);(case side1 => exact qq51);(case side2 => exact HC0.out);rintro e w10 ⟨rfl,hb⟩;refine ⟨_,rfl,?_⟩;replace HB:=am qq138;(try clear hb);(try clear hb2);(try clear hk);(try clear hi)))
  go_ret
  exact ⟨qq81,qq73⟩

end Go.Proofs.Ytnghncedinngoaa.PFnTents
