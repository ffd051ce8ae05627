/- Contracts of functions that the law FnExactMoveTo reaches, for its row: lines that the kit's printer wrote for this claim, set shorter by a program of this session (own.py), and what fell in Lean proved anew. Lean checks them. -/
import Derived.Test.YtnghncedinngoaaSFnExactMoveTox0
import Derived.Test.YtnghncedinngoaaSFnExactMoveTox8
namespace Go.Proofs.Ytnghncedinngoaa.PFnExactMoveTo
open Go.RowKit Go.Proofs.YtnghncedinngoaaW.PrintWords Go.Proofs.YtnghncedinngoaaW.PrintLast Go.Proofs.YtnghncedinngoaaW.PrintMore
attribute [local go_sem] max2_int min2_int max_two min_two max_three min_three max_four min_four   -- for this text's walks alone
set_option linter.unusedVariables false
set_option linter.unusedSimpArgs false

/-! ### laws_heldTentS: function 12 -/
def laws_heldTentS.l0 : Nat → List (S45) → Int → Int → Option (Int)
 | 0,_,_,_ => none
 | k + 1,x0,x1,x5 => if x5 < (x0.length : Int) then (if 0 ≤ x5 then (if ((rd_T45 x0 x5).f0) = x1 then (if ((rd_T45 x0 x5).f1) = (wrap64 (x1 + 1)) then ((laws_heldIntS.f k ((rd_T45 x0 x5).f2) (wrap64 ((wrap64 (x1 + 1)) + 1))).bind fun t284 => (if t284 < 0 then (some (-1)) else (laws_heldTentS.l0 k x0 t284 (wrap64 (x5 + 1))))) else (some (-1))) else (some (-1))) else (none)) else (some x1)
def laws_heldTentS.f (k : Nat) (l0 : List (S45)) (a1 : Int) : Option (Int) := laws_heldTentS.l0 k l0 a1 0
theorem laws_heldTentS.mono_l : ∀ k, (∀ y0 y1 y2, LeO (laws_heldTentS.l0 k y0 y1 y2) (laws_heldTentS.l0 (k + 1) y0 y1 y2))
 | 0 => fun _ _ _ r h => by simp [laws_heldTentS.l0] at h
 | k + 1 => by
  have ih0:=laws_heldTentS.mono_l k
  ·intro y0 y1 y2
   unfold laws_heldTentS.l0
   repeat' first
   | (with_reducible exact ih0 _ _ _)
   | (with_reducible exact laws_heldIntS.mono _ _ _)
   | (with_reducible exact LeO.refl _)
   | (with_reducible exact LeO.none _)
   | (with_reducible refine LeO.ite ?_ ?_)
   | (with_reducible refine LeO.bind ?_ (fun _ => ?_))
   | exact ih0 _ _ _
   | exact laws_heldIntS.mono _ _ _
   | exact LeO.none _
   | refine LeO.ite ?_ ?_
   | refine LeO.bind ?_ (fun _ => ?_)
theorem laws_heldTentS.mono : ∀ a0 a1 k, LeO (laws_heldTentS.f k a0 a1) (laws_heldTentS.f (k + 1) a0 a1) := by
 intro a0 a1 k
 have ih0:=laws_heldTentS.mono_l k
 unfold laws_heldTentS.f
 repeat' first
   | (with_reducible exact ih0 _ _ _)
   | (with_reducible exact laws_heldIntS.mono _ _ _)
   | (with_reducible exact LeO.refl _)
   | (with_reducible exact LeO.none _)
   | (with_reducible refine LeO.ite ?_ ?_)
   | (with_reducible refine LeO.bind ?_ (fun _ => ?_))
   | exact ih0 _ _ _
   | exact laws_heldIntS.mono _ _ _
   | exact LeO.none _
   | refine LeO.ite ?_ ?_
   | refine LeO.bind ?_ (fun _ => ?_)
set_option maxHeartbeats 8000000 in
set_option maxRecDepth 100000 in
theorem laws_heldTentS.calls (k : Nat) (A0 : Option Addr) (c0 : Nat) (l0 : List (S45)) (a1 : Int) (r : Int) (w : World) (hr0 : Kd.C k45 w A0 l0.length l0) (hc0 : l0.length ≤ c0) (h : laws_heldTentS.f k l0 a1 = some r) :
  Calls Try.prog 12 #[.slice A0 l0.length c0,.int .i64 a1] w fun e w' => e = .returned (.int .i64 r) ∧ Drawn0 w w':=by
 have HR0:=am hr0;have HC0:=am hc0;clear hr0 hc0;have H : (laws_heldTentS.l0 k l0 a1 0) = some r:=h;clear h;have H':=am H;clear H
 go_enter Try.func12,Try.ntmps12
 go_wp2
 go_loopg [1,5] k (fun kq v1 v5 w' => ∃ (x1_1 : Int) (x5_1 : Int),v1 = .int .i64 x1_1 ∧ v5 = .int .i64 x5_1 ∧ Aside0 (laws_heldTentS.l0 kq l0 x1_1 x5_1 = some r) ∧ Aside0 (kq ≤ k) ∧ Drawn0 w w')
 case atStart => exact ⟨(a1),(0),qq105,qq105,H',⟨Nat.le_refl _⟩,qq101⟩
 case round =>
  clear H'
  try clear c1
  try clear p2
  obtain ⟨x1_1,x5_1,rfl,rfl,HA,HK1,⟨m1,rfl⟩⟩:=hrel
  cases gk with
  | zero => exact absurd HA.out (by simp [laws_heldTentS.l0])
  | succ k1 =>
   have H:=HA.out;clear HA;simp only [laws_heldTentS.l0] at H
   by_cases c3 : x5_1 < (l0.length : Int)
   ·rw [if_pos c3] at H;have c3b0 : decide (x5_1 < (l0.length : Int)) = true:=decide_eq_true c3;clear c3
    by_cases c4 : 0 ≤ x5_1
    ·rw [if_pos c4] at H;have c4b0 : decide (0 ≤ x5_1) = true:=decide_eq_true c4;clear c4
     by_cases c5 : ((rd_T45 l0 x5_1).f0) = x1_1
     ·rw [if_pos c5] at H;have c5b0 : (((rd_T45 l0 x5_1).f0) == x1_1) = true:=beq_iff_eq.mpr c5;have c5b1 : (((rd_T45 l0 x5_1).f0) != x1_1) = false:=bne_eq_false_iff_eq.mpr c5;clear c5
      by_cases c6 : ((rd_T45 l0 x5_1).f1) = (wrap64 (x1_1 + 1))
      ·rw [if_pos c6] at H;have c6b0 : (((rd_T45 l0 x5_1).f1) == (wrap64 (x1_1 + 1))) = true:=beq_iff_eq.mpr c6;have c6b1 : (((rd_T45 l0 x5_1).f1) != (wrap64 (x1_1 + 1))) = false:=bne_eq_false_iff_eq.mpr c6;clear c6;replace H:=bS.mp H;obtain ⟨t284,A70,H⟩:=H;replace H : (if t284 < 0 then (some (-1)) else (laws_heldTentS.l0 k1 l0 t284 (wrap64 (x5_1 + 1)))) = some r:=H;have A7:=am A70;clear A70
       by_cases c8 : t284 < 0
       ·rw [if_pos c8] at H;have c8b0 : decide (t284 < 0) = true:=decide_eq_true c8;clear c8;obtain rfl:=Option.some.inj H;have p281 : 0 ≤ (x5_1 : Int):=odt qq103;have q281 : x5_1 < (l0.length : Int):=odt qq103;obtain ⟨ad281,A281_2,c281_2,e281,hx281_0,hx281_1,hx281_2,hl281_2,hi281_2⟩:=at_T45 HR0.out x5_1 p281 q281
        cases e281
        have HR281_2:=am hi281_2;have HC281_2:=am hl281_2;clear hi281_2 hl281_2;replace p281:=eq_true p281;replace q281:=eq_true q281;have p282 : 0 ≤ (x5_1 : Int):=odt qq103;have q282 : x5_1 < (l0.length : Int):=odt qq103;obtain ⟨ad282,A282_2,c282_2,e282,hx282_0,hx282_1,hx282_2,hl282_2,hi282_2⟩:=at_T45 HR0.out x5_1 p282 q282;obtain rfl : ad281 = ad282:=(by injection e282)
        have HR282_2:=am hi282_2;have HC282_2:=am hl282_2;clear hi282_2 hl282_2;replace p282:=eq_true p282;replace q282:=eq_true q282;have ea_:=Option.some.inj (hx281_2.symm.trans hx282_2)
        injection ea_ with ea_ en_ ec_
        subst ea_;subst ec_;clear en_;have p283 : 0 ≤ (x5_1 : Int):=odt qq103;have q283 : x5_1 < (l0.length : Int):=odt qq103;obtain ⟨ad283,A283_2,c283_2,e283,hx283_0,hx283_1,hx283_2,hl283_2,hi283_2⟩:=at_T45 HR0.out x5_1 p283 q283;obtain rfl : ad281 = ad283:=(by injection e283)
        have HR283_2:=am hi283_2;have HC283_2:=am hl283_2;clear hi283_2 hl283_2;replace p283:=eq_true p283;replace q283:=eq_true q283;have ea_:=Option.some.inj (hx281_2.symm.trans hx283_2)
        injection ea_ with ea_ en_ ec_
        subst ea_;subst ec_;clear en_;go_wp2_with (first | ((with_reducible refine gate_callee (f:=34) rfl ?_);refine goesL_ (some 36) rfl rfl Try.func34 (by kernel_rfl) rfl #[.slice A281_2 ((rd_T45 l0 x5_1).f2).length c281_2,.int .i64 (wrap64 ((wrap64 (x1_1 + 1)) + 1))] rfl qq48 ?_;(with_reducible refine (laws_heldIntS.calls k1 _ _ ((rd_T45 l0 x5_1).f2) (wrap64 ((wrap64 (x1_1 + 1)) + 1)) t284 _ ?side1 ?side2 A7.out).mono ?_);(case side1 => exact qq40);(case side2 => exact HC283_2.out);rintro e w' ⟨rfl,⟨nd,rfl⟩⟩;refine ⟨_,rfl,?_⟩))
        go_ret
        exact ⟨qq105,qq101⟩
       ·rw [if_neg c8] at H;have c8b0 : decide (t284 < 0) = false:=decide_eq_false c8;clear c8;have H':=am H;clear H;have p281 : 0 ≤ (x5_1 : Int):=odt qq103;have q281 : x5_1 < (l0.length : Int):=odt qq103;obtain ⟨ad281,A281_2,c281_2,e281,hx281_0,hx281_1,hx281_2,hl281_2,hi281_2⟩:=at_T45 HR0.out x5_1 p281 q281
        cases e281
        have HR281_2:=am hi281_2;have HC281_2:=am hl281_2;clear hi281_2 hl281_2;replace p281:=eq_true p281;replace q281:=eq_true q281;have p282 : 0 ≤ (x5_1 : Int):=odt qq103;have q282 : x5_1 < (l0.length : Int):=odt qq103;obtain ⟨ad282,A282_2,c282_2,e282,hx282_0,hx282_1,hx282_2,hl282_2,hi282_2⟩:=at_T45 HR0.out x5_1 p282 q282;obtain rfl : ad281 = ad282:=(by injection e282)
        have HR282_2:=am hi282_2;have HC282_2:=am hl282_2;clear hi282_2 hl282_2;replace p282:=eq_true p282;replace q282:=eq_true q282;have ea_:=Option.some.inj (hx281_2.symm.trans hx282_2)
        injection ea_ with ea_ en_ ec_
        subst ea_;subst ec_;clear en_;have p283 : 0 ≤ (x5_1 : Int):=odt qq103;have q283 : x5_1 < (l0.length : Int):=odt qq103;obtain ⟨ad283,A283_2,c283_2,e283,hx283_0,hx283_1,hx283_2,hl283_2,hi283_2⟩:=at_T45 HR0.out x5_1 p283 q283;obtain rfl : ad281 = ad283:=(by injection e283)
        have HR283_2:=am hi283_2;have HC283_2:=am hl283_2;clear hi283_2 hl283_2;replace p283:=eq_true p283;replace q283:=eq_true q283;have ea_:=Option.some.inj (hx281_2.symm.trans hx283_2)
        injection ea_ with ea_ en_ ec_
        subst ea_;subst ec_;clear en_;go_wp2_with (first | ((with_reducible refine gate_callee (f:=34) rfl ?_);refine goesL_ (some 36) rfl rfl Try.func34 (by kernel_rfl) rfl #[.slice A281_2 ((rd_T45 l0 x5_1).f2).length c281_2,.int .i64 (wrap64 ((wrap64 (x1_1 + 1)) + 1))] rfl qq48 ?_;(with_reducible refine (laws_heldIntS.calls k1 _ _ ((rd_T45 l0 x5_1).f2) (wrap64 ((wrap64 (x1_1 + 1)) + 1)) t284 _ ?side1 ?side2 A7.out).mono ?_);(case side1 => exact qq40);(case side2 => exact HC283_2.out);rintro e w' ⟨rfl,⟨nd,rfl⟩⟩;refine ⟨_,rfl,?_⟩))
        go_roundg k1
        case measure => have:=HK1.out;omega
        case rel => exact ⟨(t284),(wrap64 (x5_1 + 1)),qq105,qq105,H',⟨qq118⟩,qq101⟩
      ·rw [if_neg c6] at H;have c6b0 : (((rd_T45 l0 x5_1).f1) == (wrap64 (x1_1 + 1))) = false:=beq_eq_false_iff_ne.mpr c6;have c6b1 : (((rd_T45 l0 x5_1).f1) != (wrap64 (x1_1 + 1))) = true:=bne_iff_ne.mpr c6;obtain rfl:=Option.some.inj H;have p281 : 0 ≤ (x5_1 : Int):=odt qq103;have q281 : x5_1 < (l0.length : Int):=odt qq103;obtain ⟨ad281,A281_2,c281_2,e281,hx281_0,hx281_1,hx281_2,hl281_2,hi281_2⟩:=at_T45 HR0.out x5_1 p281 q281
       cases e281
       have HR281_2:=am hi281_2;have HC281_2:=am hl281_2;clear hi281_2 hl281_2;replace p281:=eq_true p281;replace q281:=eq_true q281;have p282 : 0 ≤ (x5_1 : Int):=odt qq103;have q282 : x5_1 < (l0.length : Int):=odt qq103;obtain ⟨ad282,A282_2,c282_2,e282,hx282_0,hx282_1,hx282_2,hl282_2,hi282_2⟩:=at_T45 HR0.out x5_1 p282 q282;obtain rfl : ad281 = ad282:=(by injection e282)
       have HR282_2:=am hi282_2;have HC282_2:=am hl282_2;clear hi282_2 hl282_2;replace p282:=eq_true p282;replace q282:=eq_true q282;have ea_:=Option.some.inj (hx281_2.symm.trans hx282_2)
       injection ea_ with ea_ en_ ec_
       subst ea_;subst ec_;clear en_;go_wp2
       go_ret
       exact ⟨qq105,qq101⟩
     ·rw [if_neg c5] at H;have c5b0 : (((rd_T45 l0 x5_1).f0) == x1_1) = false:=beq_eq_false_iff_ne.mpr c5;have c5b1 : (((rd_T45 l0 x5_1).f0) != x1_1) = true:=bne_iff_ne.mpr c5;obtain rfl:=Option.some.inj H;have p281 : 0 ≤ (x5_1 : Int):=odt qq103;have q281 : x5_1 < (l0.length : Int):=odt qq103;obtain ⟨ad281,A281_2,c281_2,e281,hx281_0,hx281_1,hx281_2,hl281_2,hi281_2⟩:=at_T45 HR0.out x5_1 p281 q281
      cases e281
      have HR281_2:=am hi281_2;have HC281_2:=am hl281_2;clear hi281_2 hl281_2;replace p281:=eq_true p281;replace q281:=eq_true q281;go_wp2
      go_ret
      exact ⟨qq105,qq101⟩
    ·rw [if_neg c4] at H;exact absurd H (by simp)
   ·rw [if_neg c3] at H;have c3b0 : decide (x5_1 < (l0.length : Int)) = false:=decide_eq_false c3;clear c3;obtain rfl:=Option.some.inj H;go_wp2
    go_ret
    exact ⟨qq105,qq101⟩

-- NOT PRINTED: function 3 (laws_FnExactMoveTo)

end Go.Proofs.Ytnghncedinngoaa.PFnExactMoveTo
