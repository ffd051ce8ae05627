/- Contracts of functions that the law FnExactPutUp reaches, for its row: lines that the kit's printer wrote for this claim, set shorter by a program of this session (own.py), and what fell in Lean proved anew. Lean checks them. -/
import Derived.Test.YtnghncedinngoaaSFnExactPutUpx0
import Derived.Test.YtnghncedinngoaaSFnExactPutUpx1
namespace Go.Proofs.Ytnghncedinngoaa.PFnExactPutUp
open Go.RowKit Go.Proofs.YtnghncedinngoaaW.PrintWords Go.Proofs.YtnghncedinngoaaW.PrintLast Go.Proofs.YtnghncedinngoaaW.PrintMore
attribute [local go_sem] max2_int min2_int max_two min_two max_three min_three max_four min_four   -- for this text's walks alone
set_option linter.unusedVariables false
set_option linter.unusedSimpArgs false

/-! ### laws_eqTentS: function 10 -/
def laws_eqTentS.l0 : Nat → List (S45) → List (S45) → Int → Option (Bool)
 | 0,_,_,_ => none
 | k + 1,x0,x1,x5 => if x5 < (x0.length : Int) then (if 0 ≤ x5 then (if x5 < (x1.length : Int) then ((laws_eqTent.f k ((rd_T45 x0 x5).f0) ((rd_T45 x0 x5).f1) ((rd_T45 x0 x5).f2) ((rd_T45 x1 x5).f0) ((rd_T45 x1 x5).f1) ((rd_T45 x1 x5).f2)).bind fun t133 => (if t133 = true then (laws_eqTentS.l0 k x0 x1 (wrap64 (x5 + 1))) else (some false))) else (none)) else (none)) else (some true)
def laws_eqTentS.f (k : Nat) (l0 : List (S45)) (l1 : List (S45)) : Option (Bool) := if (l0.length : Int) = (l1.length : Int) then (laws_eqTentS.l0 k l0 l1 0) else (some false)
theorem laws_eqTentS.mono_l : ∀ k, (∀ y0 y1 y2, LeO (laws_eqTentS.l0 k y0 y1 y2) (laws_eqTentS.l0 (k + 1) y0 y1 y2))
 | 0 => fun _ _ _ r h => by simp [laws_eqTentS.l0] at h
 | k + 1 => by
  have ih0:=laws_eqTentS.mono_l k
  ·intro y0 y1 y2
   unfold laws_eqTentS.l0
   repeat' first
   | (with_reducible exact ih0 _ _ _)
   | (with_reducible exact laws_eqTent.mono _ _ _ _ _ _ _)
   | (with_reducible exact LeO.refl _)
   | (with_reducible exact LeO.none _)
   | (with_reducible refine LeO.ite ?_ ?_)
   | (with_reducible refine LeO.bind ?_ (fun _ => ?_))
   | exact ih0 _ _ _
   | exact laws_eqTent.mono _ _ _ _ _ _ _
   | exact LeO.none _
   | refine LeO.ite ?_ ?_
   | refine LeO.bind ?_ (fun _ => ?_)
theorem laws_eqTentS.mono : ∀ a0 a1 k, LeO (laws_eqTentS.f k a0 a1) (laws_eqTentS.f (k + 1) a0 a1) := by
 intro a0 a1 k
 have ih0:=laws_eqTentS.mono_l k
 unfold laws_eqTentS.f
 repeat' first
   | (with_reducible exact ih0 _ _ _)
   | (with_reducible exact laws_eqTent.mono _ _ _ _ _ _ _)
   | (with_reducible exact LeO.refl _)
   | (with_reducible exact LeO.none _)
   | (with_reducible refine LeO.ite ?_ ?_)
   | (with_reducible refine LeO.bind ?_ (fun _ => ?_))
   | exact ih0 _ _ _
   | exact laws_eqTent.mono _ _ _ _ _ _ _
   | exact LeO.none _
   | refine LeO.ite ?_ ?_
   | refine LeO.bind ?_ (fun _ => ?_)
def laws_eqTentS.T6 : Bool × List (List Nat × List Nat) := (true, [([], []), ([], []), ([0, 1], [0, 1]), ([2], [2]), ([], []), ([], []), ([4, 5], [4, 5]), ([6], [6]), ([3, 7], [3, 7]), ([8], [8])])
def laws_eqTentS.B6 : List Nat := [0, 0, 3, 7, 0, 0, 48, 112, 255, 511]
theorem laws_eqTentS.tab6 : rtab .any (opsOf Try.f10 6) = laws_eqTentS.T6 := by kernel_rfl
theorem laws_eqTentS.bits6 : waitsOk laws_eqTentS.T6.2 laws_eqTentS.B6 = true := by kernel_rfl
set_option maxHeartbeats 8000000 in
set_option maxRecDepth 100000 in
theorem laws_eqTentS.calls (k : Nat) (A0 : Option Addr) (c0 : Nat) (l0 : List (S45)) (A1 : Option Addr) (c1 : Nat) (l1 : List (S45)) (r : Bool) (w : World) (hr0 : Kd.C k45 w A0 l0.length l0) (hc0 : l0.length ≤ c0) (hr1 : Kd.C k45 w A1 l1.length l1) (hc1 : l1.length ≤ c1) (h : laws_eqTentS.f k l0 l1 = some r) :
  Calls Try.prog 10 #[.slice A0 l0.length c0,.slice A1 l1.length c1] w fun e w' => e = .returned (.bool r) ∧ Below w.heap.size w w':=by
 have hu45:=Try.underlying45;have HR0:=am hr0;have HC0:=am hc0;clear hr0 hc0;have HR1:=am hr1;have HC1:=am hc1;clear hr1 hc1;have HB:=am qq130;have H : (if (l0.length : Int) = (l1.length : Int) then (laws_eqTentS.l0 k l0 l1 0) else (some false)) = some r:=h;clear h
 by_cases c3 : (l0.length : Int) = (l1.length : Int)
 ·rw [if_pos c3] at H;have c3b0 : ((l0.length : Int) == (l1.length : Int)) = true:=beq_iff_eq.mpr c3;have c3b1 : ((l0.length : Int) != (l1.length : Int)) = false:=bne_eq_false_iff_eq.mpr c3;have c3b2 : (l0.length == l1.length) = true:=by first | simpa using c3 | (simp at c3 ⊢;omega)
  clear c3;have H':=am H;clear H
  go_enter Try.func10,Try.ntmps10
  go_wp2
  go_loopg [5] k (fun kq v5 w' => ∃ (x5_1 : Int),v5 = .int .i64 x5_1 ∧ Aside0 (laws_eqTentS.l0 kq l0 l1 x5_1 = some r) ∧ Aside0 (kq ≤ k) ∧ Aside0 (Below w.heap.size w w'))
  case atStart => exact ⟨(0),qq101,H',⟨Nat.le_refl _⟩,⟨qq71⟩⟩
  case round =>
   clear H'
   try clear c1
   try clear p2
   try clear c3
   try clear c3b0
   try clear c3b1
   try clear c3b2
   obtain ⟨x5_1,rfl,HA,HK1,HB⟩:=hrel
   cases gk with
   | zero => exact absurd HA.out (by simp [laws_eqTentS.l0])
   | succ k1 =>
    have H:=HA.out;clear HA;simp only [laws_eqTentS.l0] at H
    by_cases c4 : x5_1 < (l0.length : Int)
    ·rw [if_pos c4] at H;have c4b0 : decide (x5_1 < (l0.length : Int)) = true:=decide_eq_true c4;clear c4
     by_cases c5 : 0 ≤ x5_1
     ·rw [if_pos c5] at H;have c5b0 : decide (0 ≤ x5_1) = true:=decide_eq_true c5;clear c5
      by_cases c6 : x5_1 < (l1.length : Int)
      ·rw [if_pos c6] at H;have c6b0 : decide (x5_1 < (l1.length : Int)) = true:=decide_eq_true c6;clear c6;replace H:=bS.mp H;obtain ⟨t133,A70,H⟩:=H;replace H : (if t133 = true then (laws_eqTentS.l0 k1 l0 l1 (wrap64 (x5_1 + 1))) else (some false)) = some r:=H;have A7:=am A70;clear A70
       by_cases c8 : t133 = true
       ·subst c8;have H1 : (laws_eqTentS.l0 k1 l0 l1 (wrap64 (x5_1 + 1))) = some r:=by rw [if_pos rfl] at H;exact H
        clear H;have H:=H1;clear H1;have H':=am H;clear H
        try go_wp2
        replace HB:=am qq134;have p131 : 0 ≤ (x5_1 : Int):=odt qq100;have q131 : x5_1 < (l0.length : Int):=odt qq100;obtain ⟨ad131,A131_2,c131_2,e131,hx131_0,hx131_1,hx131_2,hl131_2,hi131_2⟩:=at_T45 HR0.out x5_1 p131 q131;have hw131_2:=hx131_2;have hw131_1:=hx131_1;have hw131_0:=hx131_0
        cases e131
        replace hx131_0:=(ct HB.out hx131_0 :)
        replace hx131_1:=(ct HB.out hx131_1 :)
        replace hx131_2:=(ct HB.out hx131_2 :)
        have HR131_2:=am hi131_2;have HC131_2:=am hl131_2;clear hi131_2 hl131_2;replace p131:=eq_true p131;replace q131:=eq_true q131;have p132 : 0 ≤ (x5_1 : Int):=odt qq100;have q132 : x5_1 < (l1.length : Int):=odt qq100;obtain ⟨ad132,A132_2,c132_2,e132,hx132_0,hx132_1,hx132_2,hl132_2,hi132_2⟩:=at_T45 HR1.out x5_1 p132 q132;have hw132_2:=hx132_2;have hw132_1:=hx132_1;have hw132_0:=hx132_0
        cases e132
        replace hx132_0:=(ct HB.out hx132_0 :)
        replace hx132_1:=(ct HB.out hx132_1 :)
        replace hx132_2:=(ct HB.out hx132_2 :)
        have HR132_2:=am hi132_2;have HC132_2:=am hl132_2;clear hi132_2 hl132_2;replace p132:=eq_true p132;replace q132:=eq_true q132;refine start_ (n:=10) (S:=fun w' => w'.cell? (ad131.add ((x5_1).toNat * 3)) = some (.int .i64 ((rd_T45 l0 x5_1).f0)) ∧ w'.cell? ⟨(ad131.add ((x5_1).toNat * 3)).block,(ad131.add ((x5_1).toNat * 3)).off + 1,none⟩ = some (.int .i64 ((rd_T45 l0 x5_1).f1)) ∧ w'.cell? ⟨(ad131.add ((x5_1).toNat * 3)).block,(ad131.add ((x5_1).toNat * 3)).off + 2,none⟩ = some (.slice A131_2 ((rd_T45 l0 x5_1).f2).length c131_2) ∧ w'.cell? (ad132.add ((x5_1).toNat * 3)) = some (.int .i64 ((rd_T45 l1 x5_1).f0)) ∧ w'.cell? ⟨(ad132.add ((x5_1).toNat * 3)).block,(ad132.add ((x5_1).toNat * 3)).off + 1,none⟩ = some (.int .i64 ((rd_T45 l1 x5_1).f1)) ∧ w'.cell? ⟨(ad132.add ((x5_1).toNat * 3)).block,(ad132.add ((x5_1).toNat * 3)).off + 2,none⟩ = some (.slice A132_2 ((rd_T45 l1 x5_1).f2).length c132_2)) (ds:=[]) #[Z,Z,Z,Z,Z,Z,Z,Z,Z,Z] (by kernel_rfl) rfl rfl ⟨(ct HB.out hw131_0 :),(ct HB.out hw131_1 :),(ct HB.out hw131_2 :),(ct HB.out hw132_0 :),(ct HB.out hw132_1 :),(ct HB.out hw132_2 :)⟩ (fun hHeld => ?_);refine with_tabW laws_eqTentS.tab6 laws_eqTentS.bits6 (fun HT_ HW_ => ?_)
        generalize wr.drew = w9 at HB HR131_2 HR132_2 hx131_0 hx131_1 hx131_2 hx132_0 hx132_1 hx132_2 hHeld ⊢
        refine pV (i:=0) (N:=some 17) #[Y,Z,Z,Z,Z,Z,Z,Z,Z,Z] rfl rfl qT ?_
        refine pV (i:=1) (N:=some 18) #[Y,Y,Z,Z,Z,Z,Z,Z,Z,Z] rfl rfl qT ?_
        refine pV (i:=2) (N:=some 19) #[Y,Y,Y,Z,Z,Z,Z,Z,Z,Z] rfl rfl qT ?_
        refine pV (i:=4) (N:=some 21) #[Y,Y,Y,Z,Y,Z,Z,Z,Z,Z] rfl rfl qT ?_
        refine pV (i:=5) (N:=some 22) #[Y,Y,Y,Z,Y,Y,Z,Z,Z,Z] rfl rfl qT ?_
        refine pV (i:=6) (N:=some 23) #[Y,Y,Y,Z,Y,Y,Y,Z,Z,Z] rfl rfl qT ?_
        refine tV6 (i:=3) (N:=some 20) #[Y,Y,Y,Y,Y,Y,Y,Z,Z,Z] rfl rfl (take_ofW HT_.out HW_.out (by kernel_rfl)) hHeld ?_
        refine tV6 (i:=7) (N:=some 24) #[Y,Y,Y,Y,Y,Y,Y,Y,Z,Z] rfl rfl (take_ofW HT_.out HW_.out (by kernel_rfl)) hHeld ?_
        refine one_ (i:=8) (N:=some 25) #[Y,Y,Y,Y,Y,Y,Y,Y,Y,Z] rfl rfl (one_of HT_.out (by kernel_rfl)) (by decide) (fun K hK => ?_);refine goes_ Try.func32 (by kernel_rfl) rfl #[.agg #[.int .i64 ((rd_T45 l0 x5_1).f0),.int .i64 ((rd_T45 l0 x5_1).f1),.slice A131_2 ((rd_T45 l0 x5_1).f2).length c131_2],.agg #[.int .i64 ((rd_T45 l1 x5_1).f0),.int .i64 ((rd_T45 l1 x5_1).f1),.slice A132_2 ((rd_T45 l1 x5_1).f2).length c132_2]] (by rfl) rfl rfl qq60 ?_;with_reducible refine (laws_eqTent.calls k1 ((rd_T45 l0 x5_1).f0) ((rd_T45 l0 x5_1).f1) _ _ ((rd_T45 l0 x5_1).f2) ((rd_T45 l1 x5_1).f0) ((rd_T45 l1 x5_1).f1) _ _ ((rd_T45 l1 x5_1).f2) true _ ?side1 ?side2 ?side3 ?side4 A7.out).mono ?_
        (case side1 => exact qq35);(case side2 => exact HC131_2.out);(case side3 => exact qq34);(case side4 => exact HC132_2.out)
        rintro e w10 ⟨rfl,hb⟩
        refine ⟨_,rfl,?_⟩;replace HB:=am qq133;(try clear hb);(try clear hb2);(try clear hk);(try clear hi);refine hK.out _ _ ⟨(ct HB.out hw131_0 :),(ct HB.out hw131_1 :),(ct HB.out hw131_2 :),(ct HB.out hw132_0 :),(ct HB.out hw132_1 :),(ct HB.out hw132_2 :)⟩ (fun hHeld => ?_);clear hK K;refine norm_ (a':=?_) ?_ ?_;rotate_left
        ·show Act.put _ (some 25) _ = _
         simp only [Act.put,sA,s0,s1,i64_w,i32_w];rfl
        refine pV (i:=9) (N:=some 26) #[Y,Y,Y,Y,Y,Y,Y,Y,Y,Y] rfl rfl qT ?_
        refine done_ (done_of HT_.out (by kernel_rfl)) ?_
        try go_wp2
        go_roundg k1
        case measure => have:=HK1.out;omega
        case rel => exact ⟨(wrap64 (x5_1 + 1)),qq101,H',⟨qq108⟩,⟨qq71⟩⟩
       ·replace c8:=Bool.eq_false_iff.mpr c8;subst c8;have H1 : (some false) = some r:=by rw [if_neg (show ¬ (false = true) by decide)] at H;exact H
        clear H;have H:=H1;clear H1;obtain rfl:=Option.some.inj H
        try go_wp2
        replace HB:=am qq134;have p131 : 0 ≤ (x5_1 : Int):=odt qq100;have q131 : x5_1 < (l0.length : Int):=odt qq100;obtain ⟨ad131,A131_2,c131_2,e131,hx131_0,hx131_1,hx131_2,hl131_2,hi131_2⟩:=at_T45 HR0.out x5_1 p131 q131;have hw131_2:=hx131_2;have hw131_1:=hx131_1;have hw131_0:=hx131_0
        cases e131
        replace hx131_0:=(ct HB.out hx131_0 :)
        replace hx131_1:=(ct HB.out hx131_1 :)
        replace hx131_2:=(ct HB.out hx131_2 :)
        have HR131_2:=am hi131_2;have HC131_2:=am hl131_2;clear hi131_2 hl131_2;replace p131:=eq_true p131;replace q131:=eq_true q131;have p132 : 0 ≤ (x5_1 : Int):=odt qq100;have q132 : x5_1 < (l1.length : Int):=odt qq100;obtain ⟨ad132,A132_2,c132_2,e132,hx132_0,hx132_1,hx132_2,hl132_2,hi132_2⟩:=at_T45 HR1.out x5_1 p132 q132;have hw132_2:=hx132_2;have hw132_1:=hx132_1;have hw132_0:=hx132_0
        cases e132
        replace hx132_0:=(ct HB.out hx132_0 :)
        replace hx132_1:=(ct HB.out hx132_1 :)
        replace hx132_2:=(ct HB.out hx132_2 :)
        have HR132_2:=am hi132_2;have HC132_2:=am hl132_2;clear hi132_2 hl132_2;replace p132:=eq_true p132;replace q132:=eq_true q132;refine start_ (n:=10) (S:=fun w' => w'.cell? (ad131.add ((x5_1).toNat * 3)) = some (.int .i64 ((rd_T45 l0 x5_1).f0)) ∧ w'.cell? ⟨(ad131.add ((x5_1).toNat * 3)).block,(ad131.add ((x5_1).toNat * 3)).off + 1,none⟩ = some (.int .i64 ((rd_T45 l0 x5_1).f1)) ∧ w'.cell? ⟨(ad131.add ((x5_1).toNat * 3)).block,(ad131.add ((x5_1).toNat * 3)).off + 2,none⟩ = some (.slice A131_2 ((rd_T45 l0 x5_1).f2).length c131_2) ∧ w'.cell? (ad132.add ((x5_1).toNat * 3)) = some (.int .i64 ((rd_T45 l1 x5_1).f0)) ∧ w'.cell? ⟨(ad132.add ((x5_1).toNat * 3)).block,(ad132.add ((x5_1).toNat * 3)).off + 1,none⟩ = some (.int .i64 ((rd_T45 l1 x5_1).f1)) ∧ w'.cell? ⟨(ad132.add ((x5_1).toNat * 3)).block,(ad132.add ((x5_1).toNat * 3)).off + 2,none⟩ = some (.slice A132_2 ((rd_T45 l1 x5_1).f2).length c132_2)) (ds:=[]) #[Z,Z,Z,Z,Z,Z,Z,Z,Z,Z] (by kernel_rfl) rfl rfl ⟨(ct HB.out hw131_0 :),(ct HB.out hw131_1 :),(ct HB.out hw131_2 :),(ct HB.out hw132_0 :),(ct HB.out hw132_1 :),(ct HB.out hw132_2 :)⟩ (fun hHeld => ?_);refine with_tabW laws_eqTentS.tab6 laws_eqTentS.bits6 (fun HT_ HW_ => ?_)
        generalize wr.drew = w11 at HB HR131_2 HR132_2 hx131_0 hx131_1 hx131_2 hx132_0 hx132_1 hx132_2 hHeld ⊢
        refine pV (i:=0) (N:=some 17) #[Y,Z,Z,Z,Z,Z,Z,Z,Z,Z] rfl rfl qT ?_
        refine pV (i:=1) (N:=some 18) #[Y,Y,Z,Z,Z,Z,Z,Z,Z,Z] rfl rfl qT ?_
        refine pV (i:=2) (N:=some 19) #[Y,Y,Y,Z,Z,Z,Z,Z,Z,Z] rfl rfl qT ?_
        refine pV (i:=4) (N:=some 21) #[Y,Y,Y,Z,Y,Z,Z,Z,Z,Z] rfl rfl qT ?_
        refine pV (i:=5) (N:=some 22) #[Y,Y,Y,Z,Y,Y,Z,Z,Z,Z] rfl rfl qT ?_
        refine pV (i:=6) (N:=some 23) #[Y,Y,Y,Z,Y,Y,Y,Z,Z,Z] rfl rfl qT ?_
        refine tV6 (i:=3) (N:=some 20) #[Y,Y,Y,Y,Y,Y,Y,Z,Z,Z] rfl rfl (take_ofW HT_.out HW_.out (by kernel_rfl)) hHeld ?_
        refine tV6 (i:=7) (N:=some 24) #[Y,Y,Y,Y,Y,Y,Y,Y,Z,Z] rfl rfl (take_ofW HT_.out HW_.out (by kernel_rfl)) hHeld ?_
        refine one_ (i:=8) (N:=some 25) #[Y,Y,Y,Y,Y,Y,Y,Y,Y,Z] rfl rfl (one_of HT_.out (by kernel_rfl)) (by decide) (fun K hK => ?_);refine goes_ Try.func32 (by kernel_rfl) rfl #[.agg #[.int .i64 ((rd_T45 l0 x5_1).f0),.int .i64 ((rd_T45 l0 x5_1).f1),.slice A131_2 ((rd_T45 l0 x5_1).f2).length c131_2],.agg #[.int .i64 ((rd_T45 l1 x5_1).f0),.int .i64 ((rd_T45 l1 x5_1).f1),.slice A132_2 ((rd_T45 l1 x5_1).f2).length c132_2]] (by rfl) rfl rfl qq60 ?_;with_reducible refine (laws_eqTent.calls k1 ((rd_T45 l0 x5_1).f0) ((rd_T45 l0 x5_1).f1) _ _ ((rd_T45 l0 x5_1).f2) ((rd_T45 l1 x5_1).f0) ((rd_T45 l1 x5_1).f1) _ _ ((rd_T45 l1 x5_1).f2) false _ ?side1 ?side2 ?side3 ?side4 A7.out).mono ?_
        (case side1 => exact qq35);(case side2 => exact HC131_2.out);(case side3 => exact qq34);(case side4 => exact HC132_2.out)
        rintro e w12 ⟨rfl,hb⟩
        refine ⟨_,rfl,?_⟩;replace HB:=am qq133;(try clear hb);(try clear hb2);(try clear hk);(try clear hi);refine hK.out _ _ ⟨(ct HB.out hw131_0 :),(ct HB.out hw131_1 :),(ct HB.out hw131_2 :),(ct HB.out hw132_0 :),(ct HB.out hw132_1 :),(ct HB.out hw132_2 :)⟩ (fun hHeld => ?_);clear hK K;refine norm_ (a':=?_) ?_ ?_;rotate_left
        ·show Act.put _ (some 25) _ = _
         simp only [Act.put,sA,s0,s1,i64_w,i32_w];rfl
        refine pV (i:=9) (N:=some 26) #[Y,Y,Y,Y,Y,Y,Y,Y,Y,Y] rfl rfl qT ?_
        refine done_ (done_of HT_.out (by kernel_rfl)) ?_
        try go_wp2
        go_ret
        exact ⟨qq89,qq71⟩
      ·rw [if_neg c6] at H;exact absurd H (by simp)
     ·rw [if_neg c5] at H;exact absurd H (by simp)
    ·rw [if_neg c4] at H;have c4b0 : decide (x5_1 < (l0.length : Int)) = false:=decide_eq_false c4;clear c4;obtain rfl:=Option.some.inj H;go_wp2
     go_ret
     exact ⟨qq89,qq71⟩
 ·rw [if_neg c3] at H;have c3b0 : ((l0.length : Int) == (l1.length : Int)) = false:=beq_eq_false_iff_ne.mpr c3;have c3b1 : ((l0.length : Int) != (l1.length : Int)) = true:=bne_iff_ne.mpr c3;have c3b2 : (l0.length == l1.length) = false:=by first | simpa using c3 | (simp at c3 ⊢;omega)
  obtain rfl:=Option.some.inj H
  go_enter Try.func10,Try.ntmps10
  go_wp2
  go_ret
  exact ⟨qq89,qq71⟩

/-! ### laws_markIntS: function 33 -/
def laws_markIntS.l0 : Nat → List Int → Int → Int → Option (Int × List Int)
 | 0,_,_,_ => none
 | k + 1,x0,x1,x5 => if x5 < (x0.length : Int) then (if 0 ≤ x5 then (laws_markIntS.l0 k (x0.set (x5 : Int).toNat x1) (wrap64 (x1 + 1)) (wrap64 (x5 + 1))) else (none)) else (some (x1,x0))
def laws_markIntS.f (k : Nat) (l0 : List Int) (a1 : Int) : Option (Int × List Int) := laws_markIntS.l0 k l0 a1 0
theorem laws_markIntS.mono_l : ∀ k, (∀ y0 y1 y2, LeO (laws_markIntS.l0 k y0 y1 y2) (laws_markIntS.l0 (k + 1) y0 y1 y2))
 | 0 => fun _ _ _ r h => by simp [laws_markIntS.l0] at h
 | k + 1 => by
  have ih0:=laws_markIntS.mono_l k
  ·intro y0 y1 y2
   unfold laws_markIntS.l0
   repeat' first
   | (with_reducible exact ih0 _ _ _)
   | (with_reducible exact LeO.refl _)
   | (with_reducible exact LeO.none _)
   | (with_reducible refine LeO.ite ?_ ?_)
   | (with_reducible refine LeO.bind ?_ (fun _ => ?_))
   | exact ih0 _ _ _
   | exact LeO.none _
   | refine LeO.ite ?_ ?_
   | refine LeO.bind ?_ (fun _ => ?_)
theorem laws_markIntS.mono : ∀ a0 a1 k, LeO (laws_markIntS.f k a0 a1) (laws_markIntS.f (k + 1) a0 a1) := by
 intro a0 a1 k
 have ih0:=laws_markIntS.mono_l k
 unfold laws_markIntS.f
 repeat' first
   | (with_reducible exact ih0 _ _ _)
   | (with_reducible exact LeO.refl _)
   | (with_reducible exact LeO.none _)
   | (with_reducible refine LeO.ite ?_ ?_)
   | (with_reducible refine LeO.bind ?_ (fun _ => ?_))
   | exact ih0 _ _ _
   | exact LeO.none _
   | refine LeO.ite ?_ ?_
   | refine LeO.bind ?_ (fun _ => ?_)
set_option maxHeartbeats 8000000 in
set_option maxRecDepth 100000 in
theorem laws_markIntS.calls (k : Nat) (P0_ : Nat → Prop) (u9000_ : Value) (l0 : List Int) (a1 : Int) (r1 : Int) (r2 : List Int) (w0 w : World) (hB : Below w0.heap.size w0 w) (ho0 : Kd.R (Kd.int .i64) 3 w w0.heap.size P0_ u9000_ l0) (h : laws_markIntS.f k l0 a1 = some (r1, r2)) :
  Calls Try.prog 33 #[u9000_,.int .i64 a1] w fun e w' => e = .returned (.int .i64 r1) ∧ Kd.R (Kd.int .i64) 3 w' w0.heap.size (fun k_ => (P0_ k_ ∨ w.heap.size ≤ k_)) u9000_ r2 ∧ Below w0.heap.size w0 w' ∧ Kept w w' (fun k_ => P0_ k_):=by
 have HO0:=am (show Kd.R (Kd.int .i64) 3 w w0.heap.size (fun k_ => (P0_ k_ ∨ w.heap.size ≤ k_)) u9000_ l0 from Kd.R_mono ho0 (fun k_ hk => (.inl hk)));have HK:=am (Kept.refl w (fun k_ => P0_ k_));have HW0:=am hB.size;have HB:=am hB;clear hB;have H : (laws_markIntS.l0 k l0 a1 0) = some (r1,r2):=h;clear h;have H':=am H;clear H
 go_enter Try.func33,Try.ntmps33
 go_wp2
 go_loopg [1,5] k (fun kq v1 v5 w' => ∃ (x0_1 : List Int) (x1_1 : Int) (x5_1 : Int),v1 = .int .i64 x1_1 ∧ v5 = .int .i64 x5_1 ∧ Aside0 (laws_markIntS.l0 kq x0_1 x1_1 x5_1 = some (r1,r2)) ∧ Aside0 (kq ≤ k) ∧ Aside0 (Kd.R (Kd.int .i64) 3 w' w0.heap.size (fun k_ => (P0_ k_ ∨ w.heap.size ≤ k_)) u9000_ x0_1) ∧ Aside0 (Kept w w' (fun k_ => P0_ k_)) ∧ Aside0 (Below w0.heap.size w0 w'))
 case atStart => exact ⟨(l0),(a1),(0),qq101,qq101,H',⟨Nat.le_refl _⟩,⟨qq93⟩,⟨qq68⟩,⟨qq71⟩⟩
 case round =>
  clear H'
  try clear p2
  obtain ⟨x0_1,x1_1,x5_1,rfl,rfl,HA,HK1,HO_0,HK,HB⟩:=hrel
  cases gk with
  | zero => exact absurd HA.out (by simp [laws_markIntS.l0])
  | succ k1 =>
   have H:=HA.out;clear HA;simp only [laws_markIntS.l0] at H
   by_cases c3 : x5_1 < (x0_1.length : Int)
   ·rw [if_pos c3] at H;have c3b0 : decide (x5_1 < (x0_1.length : Int)) = true:=decide_eq_true c3;clear c3
    by_cases c4 : 0 ≤ x5_1
    ·rw [if_pos c4] at H;have c4b0 : decide (0 ≤ x5_1) = true:=decide_eq_true c4;clear c4;obtain ⟨y134,hy134⟩ : ∃ y_ : List Int,y_ = (x0_1.set (x5_1 : Int).toNat x1_1):=⟨_,rfl⟩
     replace H : (laws_markIntS.l0 k1 y134 (wrap64 (x1_1 + 1)) (wrap64 (x5_1 + 1))) = some (r1,r2):=by first | (rw [hy134];with_reducible exact H) | (have H2_:=(Option.bind_some _ _).symm.trans H;rw [hy134];with_reducible exact H2_) | (have H2_:=(Option.bind_some _ _).symm.trans H;with_reducible exact H2_) | with_reducible exact H | (rw [hy134];exact H) | exact H
     have Ny134:=am hy134;clear hy134;have H':=am H;clear H;obtain ⟨Ao6,co6,eo6⟩:=Kd.R_slice HO_0.out;subst eo6;have p5 : 0 ≤ (x5_1 : Int):=odt qq100;have q5 : (x5_1 : Int) < ((x0_1.length : Int) : Int):=odt qq100;obtain ⟨go5,co5,eo5,gb5,gl5,cl5,HG5⟩:=Kd.R_form HO_0.out (by omega);(first | cases eo5 | (injection eo5 with ea_ en_ ec_;(first | subst ea_ | (injection ea_ with ea_;subst ea_));subst ec_;clear en_));have GB5:=am gb5;have GG5:=am HG5;clear gb5 gl5 HG5;have HMgo5:=am (show (P0_ go5 ∨ w.heap.size ≤ go5) from (HO_0.out.1 _ rfl));obtain ⟨hx5_0,hf5_0⟩:=Kd.R_celln 0 HO_0.out (x5_1 : Int) p5 q5;replace p5:=eq_true p5;replace q5:=eq_true q5;have HP7:=Kd.R_putg HO_0.out (x5_1 : Int) x1_1;go_wp2_with (first | ((with_reducible refine gate_store (t:=3) (p:=15) rfl ?_);refine store_event (t:=3) (p:=15) (v:=?vo_w8) (w1:=(wr.setCell ⟨go5,(x5_1 : Int).toNat,none⟩ (.int .i64 x1_1))) ?hg ?ho ?hn ?hr ?_;(case ho => rfl);(case hg => rfl);(case hn => rfl);(case hr => exact qq103);intro w8 hw;have hg : wr.grownBy w8 (some go5):=(by rw [hw];exact HP7.2);have hp_ : Kd.R (Kd.int .i64) 3 w8 w0.heap.size (fun k_ => (P0_ k_ ∨ w.heap.size ≤ k_)) (.slice (some ⟨go5,0,none⟩) x0_1.length co6) y134:=(by rw [hw,Ny134.out];exact HP7.1);clear HP7;replace HB:=am ((qq102 : Below w0.heap.size w0 w8));replace HK:=am qq116;replace HO_0:=am (hp_);clear hg hw hp_))
     go_roundg k1
     case measure => have:=HK1.out;omega
     case rel => exact ⟨(y134),(wrap64 (x1_1 + 1)),(wrap64 (x5_1 + 1)),qq101,qq101,H',⟨qq108⟩,⟨qq92⟩,⟨qq68⟩,⟨qq71⟩⟩
    ·rw [if_neg c4] at H;exact absurd H (by simp)
   ·rw [if_neg c3] at H;have c3b0 : decide (x5_1 < (x0_1.length : Int)) = false:=decide_eq_false c3;clear c3;simp only [Option.some.injEq,Prod.mk.injEq] at H;obtain ⟨rfl,rfl⟩:=H;obtain ⟨Ao9,co9,eo9⟩:=Kd.R_slice HO_0.out;subst eo9;go_wp2
    go_ret
    exact ⟨qq89,qq92,qq71,qq68⟩

-- NOT PRINTED: function 11 (laws_markTentS)

/-! ### laws_heldIntS: function 34 -/
def laws_heldIntS.l0 : Nat → List Int → Int → Int → Option (Int)
 | 0,_,_,_ => none
 | k + 1,x0,x1,x5 => if x5 < (x0.length : Int) then (if 0 ≤ x5 then (if (rd x0 x5) = x1 then (laws_heldIntS.l0 k x0 (wrap64 (x1 + 1)) (wrap64 (x5 + 1))) else (some (-1))) else (none)) else (some x1)
def laws_heldIntS.f (k : Nat) (l0 : List Int) (a1 : Int) : Option (Int) := laws_heldIntS.l0 k l0 a1 0
theorem laws_heldIntS.mono_l : ∀ k, (∀ y0 y1 y2, LeO (laws_heldIntS.l0 k y0 y1 y2) (laws_heldIntS.l0 (k + 1) y0 y1 y2))
 | 0 => fun _ _ _ r h => by simp [laws_heldIntS.l0] at h
 | k + 1 => by
  have ih0:=laws_heldIntS.mono_l k
  ·intro y0 y1 y2
   unfold laws_heldIntS.l0
   repeat' first
   | (with_reducible exact ih0 _ _ _)
   | (with_reducible exact LeO.refl _)
   | (with_reducible exact LeO.none _)
   | (with_reducible refine LeO.ite ?_ ?_)
   | (with_reducible refine LeO.bind ?_ (fun _ => ?_))
   | exact ih0 _ _ _
   | exact LeO.none _
   | refine LeO.ite ?_ ?_
   | refine LeO.bind ?_ (fun _ => ?_)
theorem laws_heldIntS.mono : ∀ a0 a1 k, LeO (laws_heldIntS.f k a0 a1) (laws_heldIntS.f (k + 1) a0 a1) := by
 intro a0 a1 k
 have ih0:=laws_heldIntS.mono_l k
 unfold laws_heldIntS.f
 repeat' first
   | (with_reducible exact ih0 _ _ _)
   | (with_reducible exact LeO.refl _)
   | (with_reducible exact LeO.none _)
   | (with_reducible refine LeO.ite ?_ ?_)
   | (with_reducible refine LeO.bind ?_ (fun _ => ?_))
   | exact ih0 _ _ _
   | exact LeO.none _
   | refine LeO.ite ?_ ?_
   | refine LeO.bind ?_ (fun _ => ?_)
set_option maxHeartbeats 8000000 in
set_option maxRecDepth 100000 in
theorem laws_heldIntS.calls (k : Nat) (A0 : Option Addr) (c0 : Nat) (l0 : List Int) (a1 : Int) (r : Int) (w : World) (hr0 : Kd.C (Kd.int .i64) w A0 l0.length l0) (hc0 : l0.length ≤ c0) (h : laws_heldIntS.f k l0 a1 = some r) :
  Calls Try.prog 34 #[.slice A0 l0.length c0,.int .i64 a1] w fun e w' => e = .returned (.int .i64 r) ∧ Drawn0 w w':=by
 have HR0:=am hr0;have HC0:=am hc0;clear hr0 hc0;have H : (laws_heldIntS.l0 k l0 a1 0) = some r:=h;clear h;have H':=am H;clear H
 go_enter Try.func34,Try.ntmps34
 go_wp2
 go_loopg [1,5] k (fun kq v1 v5 w' => ∃ (x1_1 : Int) (x5_1 : Int),v1 = .int .i64 x1_1 ∧ v5 = .int .i64 x5_1 ∧ Aside0 (laws_heldIntS.l0 kq l0 x1_1 x5_1 = some r) ∧ Aside0 (kq ≤ k) ∧ Drawn0 w w')
 case atStart => exact ⟨(a1),(0),qq101,qq101,H',⟨Nat.le_refl _⟩,qq98⟩
 case round =>
  clear H'
  try clear p2
  obtain ⟨x1_1,x5_1,rfl,rfl,HA,HK1,⟨m1,rfl⟩⟩:=hrel
  cases gk with
  | zero => exact absurd HA.out (by simp [laws_heldIntS.l0])
  | succ k1 =>
   have H:=HA.out;clear HA;simp only [laws_heldIntS.l0] at H
   by_cases c3 : x5_1 < (l0.length : Int)
   ·rw [if_pos c3] at H;have c3b0 : decide (x5_1 < (l0.length : Int)) = true:=decide_eq_true c3;clear c3
    by_cases c4 : 0 ≤ x5_1
    ·rw [if_pos c4] at H;have c4b0 : decide (0 ≤ x5_1) = true:=decide_eq_true c4;clear c4
     by_cases c5 : (rd l0 x5_1) = x1_1
     ·rw [if_pos c5] at H;have c5b0 : ((rd l0 x5_1) == x1_1) = true:=beq_iff_eq.mpr c5;have c5b1 : ((rd l0 x5_1) != x1_1) = false:=bne_eq_false_iff_eq.mpr c5;clear c5;have H':=am H;clear H;have p135 : 0 ≤ (x5_1 : Int):=odt qq100;have q135 : x5_1 < (l0.length : Int):=odt qq100;obtain ⟨ad135,e135,hx135_0⟩:=Kd.at_int HR0.out x5_1 p135 q135
      cases e135
      replace p135:=eq_true p135;replace q135:=eq_true q135;go_wp2
      go_roundg k1
      case measure => have:=HK1.out;omega
      case rel => exact ⟨(wrap64 (x1_1 + 1)),(wrap64 (x5_1 + 1)),qq101,qq101,H',⟨qq108⟩,qq98⟩
     ·rw [if_neg c5] at H;have c5b0 : ((rd l0 x5_1) == x1_1) = false:=beq_eq_false_iff_ne.mpr c5;have c5b1 : ((rd l0 x5_1) != x1_1) = true:=bne_iff_ne.mpr c5;obtain rfl:=Option.some.inj H;have p135 : 0 ≤ (x5_1 : Int):=odt qq100;have q135 : x5_1 < (l0.length : Int):=odt qq100;obtain ⟨ad135,e135,hx135_0⟩:=Kd.at_int HR0.out x5_1 p135 q135
      cases e135
      replace p135:=eq_true p135;replace q135:=eq_true q135;go_wp2
      go_ret
      exact ⟨qq101,qq98⟩
    ·rw [if_neg c4] at H;exact absurd H (by simp)
   ·rw [if_neg c3] at H;have c3b0 : decide (x5_1 < (l0.length : Int)) = false:=decide_eq_false c3;clear c3;obtain rfl:=Option.some.inj H;go_wp2
    go_ret
    exact ⟨qq101,qq98⟩

/-! ### laws_heldTentS: function 12 -/
def laws_heldTentS.l0 : Nat → List (S45) → Int → Int → Option (Int)
 | 0,_,_,_ => none
 | k + 1,x0,x1,x5 => if x5 < (x0.length : Int) then (if 0 ≤ x5 then (if ((rd_T45 x0 x5).f0) = x1 then (if ((rd_T45 x0 x5).f1) = (wrap64 (x1 + 1)) then ((laws_heldIntS.f k ((rd_T45 x0 x5).f2) (wrap64 ((wrap64 (x1 + 1)) + 1))).bind fun t139 => (if t139 < 0 then (some (-1)) else (laws_heldTentS.l0 k x0 t139 (wrap64 (x5 + 1))))) else (some (-1))) else (some (-1))) else (none)) else (some x1)
def laws_heldTentS.f (k : Nat) (l0 : List (S45)) (a1 : Int) : Option (Int) := laws_heldTentS.l0 k l0 a1 0
theorem laws_heldTentS.mono_l : ∀ k, (∀ y0 y1 y2, LeO (laws_heldTentS.l0 k y0 y1 y2) (laws_heldTentS.l0 (k + 1) y0 y1 y2))
 | 0 => fun _ _ _ r h => by simp [laws_heldTentS.l0] at h
 | k + 1 => by
  have ih0:=laws_heldTentS.mono_l k
  ·intro y0 y1 y2
   unfold laws_heldTentS.l0
   repeat' first
   | (with_reducible exact ih0 _ _ _)
   | (with_reducible exact laws_heldIntS.mono _ _ _)
   | (with_reducible exact LeO.refl _)
   | (with_reducible exact LeO.none _)
   | (with_reducible refine LeO.ite ?_ ?_)
   | (with_reducible refine LeO.bind ?_ (fun _ => ?_))
   | exact ih0 _ _ _
   | exact laws_heldIntS.mono _ _ _
   | exact LeO.none _
   | refine LeO.ite ?_ ?_
   | refine LeO.bind ?_ (fun _ => ?_)
theorem laws_heldTentS.mono : ∀ a0 a1 k, LeO (laws_heldTentS.f k a0 a1) (laws_heldTentS.f (k + 1) a0 a1) := by
 intro a0 a1 k
 have ih0:=laws_heldTentS.mono_l k
 unfold laws_heldTentS.f
 repeat' first
   | (with_reducible exact ih0 _ _ _)
   | (with_reducible exact laws_heldIntS.mono _ _ _)
   | (with_reducible exact LeO.refl _)
   | (with_reducible exact LeO.none _)
   | (with_reducible refine LeO.ite ?_ ?_)
   | (with_reducible refine LeO.bind ?_ (fun _ => ?_))
   | exact ih0 _ _ _
   | exact laws_heldIntS.mono _ _ _
   | exact LeO.none _
   | refine LeO.ite ?_ ?_
   | refine LeO.bind ?_ (fun _ => ?_)
set_option maxHeartbeats 8000000 in
set_option maxRecDepth 100000 in
theorem laws_heldTentS.calls (k : Nat) (A0 : Option Addr) (c0 : Nat) (l0 : List (S45)) (a1 : Int) (r : Int) (w : World) (hr0 : Kd.C k45 w A0 l0.length l0) (hc0 : l0.length ≤ c0) (h : laws_heldTentS.f k l0 a1 = some r) :
  Calls Try.prog 12 #[.slice A0 l0.length c0,.int .i64 a1] w fun e w' => e = .returned (.int .i64 r) ∧ Drawn0 w w':=by
 have HR0:=am hr0;have HC0:=am hc0;clear hr0 hc0;have H : (laws_heldTentS.l0 k l0 a1 0) = some r:=h;clear h;have H':=am H;clear H
 go_enter Try.func12,Try.ntmps12
 go_wp2
 go_loopg [1,5] k (fun kq v1 v5 w' => ∃ (x1_1 : Int) (x5_1 : Int),v1 = .int .i64 x1_1 ∧ v5 = .int .i64 x5_1 ∧ Aside0 (laws_heldTentS.l0 kq l0 x1_1 x5_1 = some r) ∧ Aside0 (kq ≤ k) ∧ Drawn0 w w')
 case atStart => exact ⟨(a1),(0),qq101,qq101,H',⟨Nat.le_refl _⟩,qq98⟩
 case round =>
  clear H'
  try clear c1
  try clear p2
  obtain ⟨x1_1,x5_1,rfl,rfl,HA,HK1,⟨m1,rfl⟩⟩:=hrel
  cases gk with
  | zero => exact absurd HA.out (by simp [laws_heldTentS.l0])
  | succ k1 =>
   have H:=HA.out;clear HA;simp only [laws_heldTentS.l0] at H
   by_cases c3 : x5_1 < (l0.length : Int)
   ·rw [if_pos c3] at H;have c3b0 : decide (x5_1 < (l0.length : Int)) = true:=decide_eq_true c3;clear c3
    by_cases c4 : 0 ≤ x5_1
    ·rw [if_pos c4] at H;have c4b0 : decide (0 ≤ x5_1) = true:=decide_eq_true c4;clear c4
     by_cases c5 : ((rd_T45 l0 x5_1).f0) = x1_1
     ·rw [if_pos c5] at H;have c5b0 : (((rd_T45 l0 x5_1).f0) == x1_1) = true:=beq_iff_eq.mpr c5;have c5b1 : (((rd_T45 l0 x5_1).f0) != x1_1) = false:=bne_eq_false_iff_eq.mpr c5;clear c5
      by_cases c6 : ((rd_T45 l0 x5_1).f1) = (wrap64 (x1_1 + 1))
      ·rw [if_pos c6] at H;have c6b0 : (((rd_T45 l0 x5_1).f1) == (wrap64 (x1_1 + 1))) = true:=beq_iff_eq.mpr c6;have c6b1 : (((rd_T45 l0 x5_1).f1) != (wrap64 (x1_1 + 1))) = false:=bne_eq_false_iff_eq.mpr c6;clear c6;replace H:=bS.mp H;obtain ⟨t139,A70,H⟩:=H;replace H : (if t139 < 0 then (some (-1)) else (laws_heldTentS.l0 k1 l0 t139 (wrap64 (x5_1 + 1)))) = some r:=H;have A7:=am A70;clear A70
       by_cases c8 : t139 < 0
       ·rw [if_pos c8] at H;have c8b0 : decide (t139 < 0) = true:=decide_eq_true c8;clear c8;obtain rfl:=Option.some.inj H;have p136 : 0 ≤ (x5_1 : Int):=odt qq100;have q136 : x5_1 < (l0.length : Int):=odt qq100;obtain ⟨ad136,A136_2,c136_2,e136,hx136_0,hx136_1,hx136_2,hl136_2,hi136_2⟩:=at_T45 HR0.out x5_1 p136 q136
        cases e136
        have HR136_2:=am hi136_2;have HC136_2:=am hl136_2;clear hi136_2 hl136_2;replace p136:=eq_true p136;replace q136:=eq_true q136;have p137 : 0 ≤ (x5_1 : Int):=odt qq100;have q137 : x5_1 < (l0.length : Int):=odt qq100;obtain ⟨ad137,A137_2,c137_2,e137,hx137_0,hx137_1,hx137_2,hl137_2,hi137_2⟩:=at_T45 HR0.out x5_1 p137 q137;obtain rfl : ad136 = ad137:=(by injection e137)
        have HR137_2:=am hi137_2;have HC137_2:=am hl137_2;clear hi137_2 hl137_2;replace p137:=eq_true p137;replace q137:=eq_true q137;have ea_:=Option.some.inj (hx136_2.symm.trans hx137_2)
        injection ea_ with ea_ en_ ec_
        subst ea_;subst ec_;clear en_;have p138 : 0 ≤ (x5_1 : Int):=odt qq100;have q138 : x5_1 < (l0.length : Int):=odt qq100;obtain ⟨ad138,A138_2,c138_2,e138,hx138_0,hx138_1,hx138_2,hl138_2,hi138_2⟩:=at_T45 HR0.out x5_1 p138 q138;obtain rfl : ad136 = ad138:=(by injection e138)
        have HR138_2:=am hi138_2;have HC138_2:=am hl138_2;clear hi138_2 hl138_2;replace p138:=eq_true p138;replace q138:=eq_true q138;have ea_:=Option.some.inj (hx136_2.symm.trans hx138_2)
        injection ea_ with ea_ en_ ec_
        subst ea_;subst ec_;clear en_;go_wp2_with (first | ((with_reducible refine gate_callee (f:=34) rfl ?_);refine goesL_ (some 36) rfl rfl Try.func34 (by kernel_rfl) rfl #[.slice A136_2 ((rd_T45 l0 x5_1).f2).length c136_2,.int .i64 (wrap64 ((wrap64 (x1_1 + 1)) + 1))] rfl qq60 ?_;(with_reducible refine (laws_heldIntS.calls k1 _ _ ((rd_T45 l0 x5_1).f2) (wrap64 ((wrap64 (x1_1 + 1)) + 1)) t139 _ ?side1 ?side2 A7.out).mono ?_);(case side1 => exact qq50);(case side2 => exact HC138_2.out);rintro e w' ⟨rfl,⟨nd,rfl⟩⟩;refine ⟨_,rfl,?_⟩))
        go_ret
        exact ⟨qq101,qq98⟩
       ·rw [if_neg c8] at H;have c8b0 : decide (t139 < 0) = false:=decide_eq_false c8;clear c8;have H':=am H;clear H;have p136 : 0 ≤ (x5_1 : Int):=odt qq100;have q136 : x5_1 < (l0.length : Int):=odt qq100;obtain ⟨ad136,A136_2,c136_2,e136,hx136_0,hx136_1,hx136_2,hl136_2,hi136_2⟩:=at_T45 HR0.out x5_1 p136 q136
        cases e136
        have HR136_2:=am hi136_2;have HC136_2:=am hl136_2;clear hi136_2 hl136_2;replace p136:=eq_true p136;replace q136:=eq_true q136;have p137 : 0 ≤ (x5_1 : Int):=odt qq100;have q137 : x5_1 < (l0.length : Int):=odt qq100;obtain ⟨ad137,A137_2,c137_2,e137,hx137_0,hx137_1,hx137_2,hl137_2,hi137_2⟩:=at_T45 HR0.out x5_1 p137 q137;obtain rfl : ad136 = ad137:=(by injection e137)
        have HR137_2:=am hi137_2;have HC137_2:=am hl137_2;clear hi137_2 hl137_2;replace p137:=eq_true p137;replace q137:=eq_true q137;have ea_:=Option.some.inj (hx136_2.symm.trans hx137_2)
        injection ea_ with ea_ en_ ec_
        subst ea_;subst ec_;clear en_;have p138 : 0 ≤ (x5_1 : Int):=odt qq100;have q138 : x5_1 < (l0.length : Int):=odt qq100;obtain ⟨ad138,A138_2,c138_2,e138,hx138_0,hx138_1,hx138_2,hl138_2,hi138_2⟩:=at_T45 HR0.out x5_1 p138 q138;obtain rfl : ad136 = ad138:=(by injection e138)
        have HR138_2:=am hi138_2;have HC138_2:=am hl138_2;clear hi138_2 hl138_2;replace p138:=eq_true p138;replace q138:=eq_true q138;have ea_:=Option.some.inj (hx136_2.symm.trans hx138_2)
        injection ea_ with ea_ en_ ec_
        subst ea_;subst ec_;clear en_;go_wp2_with (first | ((with_reducible refine gate_callee (f:=34) rfl ?_);refine goesL_ (some 36) rfl rfl Try.func34 (by kernel_rfl) rfl #[.slice A136_2 ((rd_T45 l0 x5_1).f2).length c136_2,.int .i64 (wrap64 ((wrap64 (x1_1 + 1)) + 1))] rfl qq60 ?_;(with_reducible refine (laws_heldIntS.calls k1 _ _ ((rd_T45 l0 x5_1).f2) (wrap64 ((wrap64 (x1_1 + 1)) + 1)) t139 _ ?side1 ?side2 A7.out).mono ?_);(case side1 => exact qq50);(case side2 => exact HC138_2.out);rintro e w' ⟨rfl,⟨nd,rfl⟩⟩;refine ⟨_,rfl,?_⟩))
        go_roundg k1
        case measure => have:=HK1.out;omega
        case rel => exact ⟨(t139),(wrap64 (x5_1 + 1)),qq101,qq101,H',⟨qq108⟩,qq98⟩
      ·rw [if_neg c6] at H;have c6b0 : (((rd_T45 l0 x5_1).f1) == (wrap64 (x1_1 + 1))) = false:=beq_eq_false_iff_ne.mpr c6;have c6b1 : (((rd_T45 l0 x5_1).f1) != (wrap64 (x1_1 + 1))) = true:=bne_iff_ne.mpr c6;obtain rfl:=Option.some.inj H;have p136 : 0 ≤ (x5_1 : Int):=odt qq100;have q136 : x5_1 < (l0.length : Int):=odt qq100;obtain ⟨ad136,A136_2,c136_2,e136,hx136_0,hx136_1,hx136_2,hl136_2,hi136_2⟩:=at_T45 HR0.out x5_1 p136 q136
       cases e136
       have HR136_2:=am hi136_2;have HC136_2:=am hl136_2;clear hi136_2 hl136_2;replace p136:=eq_true p136;replace q136:=eq_true q136;have p137 : 0 ≤ (x5_1 : Int):=odt qq100;have q137 : x5_1 < (l0.length : Int):=odt qq100;obtain ⟨ad137,A137_2,c137_2,e137,hx137_0,hx137_1,hx137_2,hl137_2,hi137_2⟩:=at_T45 HR0.out x5_1 p137 q137;obtain rfl : ad136 = ad137:=(by injection e137)
       have HR137_2:=am hi137_2;have HC137_2:=am hl137_2;clear hi137_2 hl137_2;replace p137:=eq_true p137;replace q137:=eq_true q137;have ea_:=Option.some.inj (hx136_2.symm.trans hx137_2)
       injection ea_ with ea_ en_ ec_
       subst ea_;subst ec_;clear en_;go_wp2
       go_ret
       exact ⟨qq101,qq98⟩
     ·rw [if_neg c5] at H;have c5b0 : (((rd_T45 l0 x5_1).f0) == x1_1) = false:=beq_eq_false_iff_ne.mpr c5;have c5b1 : (((rd_T45 l0 x5_1).f0) != x1_1) = true:=bne_iff_ne.mpr c5;obtain rfl:=Option.some.inj H;have p136 : 0 ≤ (x5_1 : Int):=odt qq100;have q136 : x5_1 < (l0.length : Int):=odt qq100;obtain ⟨ad136,A136_2,c136_2,e136,hx136_0,hx136_1,hx136_2,hl136_2,hi136_2⟩:=at_T45 HR0.out x5_1 p136 q136
      cases e136
      have HR136_2:=am hi136_2;have HC136_2:=am hl136_2;clear hi136_2 hl136_2;replace p136:=eq_true p136;replace q136:=eq_true q136;go_wp2
      go_ret
      exact ⟨qq101,qq98⟩
    ·rw [if_neg c4] at H;exact absurd H (by simp)
   ·rw [if_neg c3] at H;have c3b0 : decide (x5_1 < (l0.length : Int)) = false:=decide_eq_false c3;clear c3;obtain rfl:=Option.some.inj H;go_wp2
    go_ret
    exact ⟨qq101,qq98⟩

/-! ### laws_szMemberS: function 13 -/
def laws_szMemberS.f (l0 : List (S60)) (a1 : Int) : Option (Int) := if (wrap64 (a1 - (l0.length : Int))) < 0 then (some (-1)) else (some (wrap64 (a1 - (l0.length : Int))))
set_option maxHeartbeats 8000000 in
set_option maxRecDepth 100000 in
theorem laws_szMemberS.calls (A0 : Option Addr) (c0 : Nat) (l0 : List (S60)) (a1 : Int) (r : Int) (w : World) (hr0 : Kd.C k60 w A0 l0.length l0) (hc0 : l0.length ≤ c0) (h : laws_szMemberS.f l0 a1 = some r) :
  Calls Try.prog 13 #[.slice A0 l0.length c0,.int .i64 a1] w fun e w' => e = .returned (.int .i64 r) ∧ Drawn0 w w':=by
 have HR0:=am hr0;have HC0:=am hc0;clear hr0 hc0;have H : (if (wrap64 (a1 - (l0.length : Int))) < 0 then (some (-1)) else (some (wrap64 (a1 - (l0.length : Int))))) = some r:=h;clear h
 by_cases c3 : (wrap64 (a1 - (l0.length : Int))) < 0
 ·rw [if_pos c3] at H;have c3b0 : decide ((wrap64 (a1 - (l0.length : Int))) < 0) = true:=decide_eq_true c3;clear c3;obtain rfl:=Option.some.inj H
  go_enter Try.func13,Try.ntmps13
  go_wp2
  go_ret
  exact ⟨qq101,qq98⟩
 ·rw [if_neg c3] at H;have c3b0 : decide ((wrap64 (a1 - (l0.length : Int))) < 0) = false:=decide_eq_false c3;clear c3;obtain rfl:=Option.some.inj H
  go_enter Try.func13,Try.ntmps13
  go_wp2
  go_ret
  exact ⟨qq101,qq98⟩

end Go.Proofs.Ytnghncedinngoaa.PFnExactPutUp
