/- Contracts of functions that the law FnExactPlanFood reaches, for its row: lines that the kit's printer wrote for this claim, set shorter by a program of this session (own.py), and what fell in Lean proved anew. Lean checks them. -/
import Derived.Test.YtcbkknpmeknppaaSFnExactPlanFoodx0
import Derived.Test.YtcbkknpmeknppaaSFnExactPlanFoodx18
namespace Go.Proofs.Ytcbkknpmeknppaa.PFnExactPlanFood
open Go.RowKit Go.Proofs.YtcbkknpmeknppaaW.PrintWords Go.Proofs.YtcbkknpmeknppaaW.PrintLast Go.Proofs.YtcbkknpmeknppaaW.PrintMore
attribute [local go_sem] max2_int min2_int max_two min_two max_three min_three max_four min_four   -- for this text's walks alone
set_option linter.unusedVariables false
set_option linter.unusedSimpArgs false

/-! ### laws_eqMemberS: function 117 -/
def laws_eqMemberS.l0 : Nat → List (S112) → List (S112) → Int → Option (Bool)
 | 0,_,_,_ => none
 | k + 1,x0,x1,x5 => if x5 < (x0.length : Int) then (if 0 ≤ x5 then (if x5 < (x1.length : Int) then ((laws_eqMember.f ((rd_T112 x0 x5).f0) ((rd_T112 x0 x5).f1) ((rd_T112 x0 x5).f2) ((rd_T112 x0 x5).f3) ((rd_T112 x1 x5).f0) ((rd_T112 x1 x5).f1) ((rd_T112 x1 x5).f2) ((rd_T112 x1 x5).f3)).bind fun t525 => (if t525 = true then (laws_eqMemberS.l0 k x0 x1 (wrap64 (x5 + 1))) else (some false))) else (none)) else (none)) else (some true)
def laws_eqMemberS.f (k : Nat) (l0 : List (S112)) (l1 : List (S112)) : Option (Bool) := if (l0.length : Int) = (l1.length : Int) then (laws_eqMemberS.l0 k l0 l1 0) else (some false)
def laws_eqMemberS.T6 : Bool × List (List Nat × List Nat) := (true, [([], []), ([], []), ([0, 1], [0, 1]), ([2], [2]), ([], []), ([], []), ([4, 5], [4, 5]), ([6], [6]), ([3, 7], [3, 7]), ([8], [8])])
def laws_eqMemberS.B6 : List Nat := [0, 0, 3, 7, 0, 0, 48, 112, 255, 511]
theorem laws_eqMemberS.tab6 : rtab .any (opsOf Try.f117 6) = laws_eqMemberS.T6 := by kernel_rfl
theorem laws_eqMemberS.bits6 : waitsOk laws_eqMemberS.T6.2 laws_eqMemberS.B6 = true := by kernel_rfl
set_option maxHeartbeats 8000000 in
set_option maxRecDepth 100000 in
theorem laws_eqMemberS.calls (k : Nat) (A0 : Option Addr) (c0 : Nat) (l0 : List (S112)) (A1 : Option Addr) (c1 : Nat) (l1 : List (S112)) (r : Bool) (w : World) (hr0 : Kd.C k112 w A0 l0.length l0) (hc0 : l0.length ≤ c0) (hr1 : Kd.C k112 w A1 l1.length l1) (hc1 : l1.length ≤ c1) (h : laws_eqMemberS.f k l0 l1 = some r) :
  Calls Try.prog 117 #[.slice A0 l0.length c0,.slice A1 l1.length c1] w fun e w' => e = .returned (.bool r) ∧ Below w.heap.size w w':=by
 have hu112:=Try.underlying112;have HR0:=am hr0;have HC0:=am hc0;clear hr0 hc0;have HR1:=am hr1;have HC1:=am hc1;clear hr1 hc1;have HB:=am qq465;have H : (if (l0.length : Int) = (l1.length : Int) then (laws_eqMemberS.l0 k l0 l1 0) else (some false)) = some r:=h;clear h
 by_cases c3 : (l0.length : Int) = (l1.length : Int)
 ·rw [if_pos c3] at H;have c3b0 : ((l0.length : Int) == (l1.length : Int)) = true:=beq_iff_eq.mpr c3;have c3b1 : ((l0.length : Int) != (l1.length : Int)) = false:=bne_eq_false_iff_eq.mpr c3;have c3b2 : (l0.length == l1.length) = true:=by first | simpa using c3 | (simp at c3 ⊢;omega)
  clear c3;have H':=am H;clear H
  go_enter Try.func117,Try.ntmps117
  go_wp2
  go_loopg [5] k (fun kq v5 w' => ∃ (x5_1 : Int),v5 = .int .i64 x5_1 ∧ Aside0 (laws_eqMemberS.l0 kq l0 l1 x5_1 = some r) ∧ Aside0 (kq ≤ k) ∧ Aside0 (Below w.heap.size w w'))
  case atStart => exact ⟨(0),qq311,H',⟨Nat.le_refl _⟩,⟨qq208⟩⟩
  case round =>
   clear H'
   try clear c1
   try clear p2
   try clear c3
   try clear c3b0
   try clear c3b1
   try clear c3b2
   obtain ⟨x5_1,rfl,HA,HK1,HB⟩:=hrel
   cases gk with
   | zero => exact absurd HA.out (by simp [laws_eqMemberS.l0])
   | succ k1 =>
    have H:=HA.out;clear HA;simp only [laws_eqMemberS.l0] at H
    by_cases c4 : x5_1 < (l0.length : Int)
    ·rw [if_pos c4] at H;have c4b0 : decide (x5_1 < (l0.length : Int)) = true:=decide_eq_true c4;clear c4
     by_cases c5 : 0 ≤ x5_1
     ·rw [if_pos c5] at H;have c5b0 : decide (0 ≤ x5_1) = true:=decide_eq_true c5;clear c5
      by_cases c6 : x5_1 < (l1.length : Int)
      ·rw [if_pos c6] at H;have c6b0 : decide (x5_1 < (l1.length : Int)) = true:=decide_eq_true c6;clear c6;replace H:=bS.mp H;obtain ⟨t525,A70,H⟩:=H;(try dsimp only at H);have A7:=am A70;clear A70
       by_cases c8 : t525 = true
       ·subst c8;rw [if_pos rfl] at H;have H':=am H;clear H
        try go_wp2
        replace HB:=am qq519;have p523 : 0 ≤ (x5_1 : Int):=odt qq309;have q523 : x5_1 < (l0.length : Int):=odt qq309;obtain ⟨ad523,e523,hx523_0,hx523_1,hx523_2,hx523_3⟩:=at_T112 HR0.out x5_1 p523 q523;have hw523_3:=hx523_3;have hw523_2:=hx523_2;have hw523_1:=hx523_1;have hw523_0:=hx523_0
        cases e523
        replace hx523_0:=(ct HB.out hx523_0 :)
        replace hx523_1:=(ct HB.out hx523_1 :)
        replace hx523_2:=(ct HB.out hx523_2 :)
        replace hx523_3:=(ct HB.out hx523_3 :)
        replace p523:=eq_true p523;replace q523:=eq_true q523;have p524 : 0 ≤ (x5_1 : Int):=odt qq309;have q524 : x5_1 < (l1.length : Int):=odt qq309;obtain ⟨ad524,e524,hx524_0,hx524_1,hx524_2,hx524_3⟩:=at_T112 HR1.out x5_1 p524 q524;have hw524_3:=hx524_3;have hw524_2:=hx524_2;have hw524_1:=hx524_1;have hw524_0:=hx524_0
        cases e524
        replace hx524_0:=(ct HB.out hx524_0 :)
        replace hx524_1:=(ct HB.out hx524_1 :)
        replace hx524_2:=(ct HB.out hx524_2 :)
        replace hx524_3:=(ct HB.out hx524_3 :)
        replace p524:=eq_true p524;replace q524:=eq_true q524;refine start_ (n:=10) (S:=fun w' => w'.cell? (ad523.add ((x5_1).toNat * 4)) = some (.int .i64 ((rd_T112 l0 x5_1).f0)) ∧ w'.cell? ⟨(ad523.add ((x5_1).toNat * 4)).block,(ad523.add ((x5_1).toNat * 4)).off + 1,none⟩ = some (.int .i64 ((rd_T112 l0 x5_1).f1)) ∧ w'.cell? ⟨(ad523.add ((x5_1).toNat * 4)).block,(ad523.add ((x5_1).toNat * 4)).off + 2,none⟩ = some (.int .i64 ((rd_T112 l0 x5_1).f2)) ∧ w'.cell? ⟨(ad523.add ((x5_1).toNat * 4)).block,(ad523.add ((x5_1).toNat * 4)).off + 3,none⟩ = some (.bool ((rd_T112 l0 x5_1).f3)) ∧ w'.cell? (ad524.add ((x5_1).toNat * 4)) = some (.int .i64 ((rd_T112 l1 x5_1).f0)) ∧ w'.cell? ⟨(ad524.add ((x5_1).toNat * 4)).block,(ad524.add ((x5_1).toNat * 4)).off + 1,none⟩ = some (.int .i64 ((rd_T112 l1 x5_1).f1)) ∧ w'.cell? ⟨(ad524.add ((x5_1).toNat * 4)).block,(ad524.add ((x5_1).toNat * 4)).off + 2,none⟩ = some (.int .i64 ((rd_T112 l1 x5_1).f2)) ∧ w'.cell? ⟨(ad524.add ((x5_1).toNat * 4)).block,(ad524.add ((x5_1).toNat * 4)).off + 3,none⟩ = some (.bool ((rd_T112 l1 x5_1).f3))) (ds:=[]) #[Z,Z,Z,Z,Z,Z,Z,Z,Z,Z] (by kernel_rfl) rfl rfl ⟨(ct HB.out hw523_0 :),(ct HB.out hw523_1 :),(ct HB.out hw523_2 :),(ct HB.out hw523_3 :),(ct HB.out hw524_0 :),(ct HB.out hw524_1 :),(ct HB.out hw524_2 :),(ct HB.out hw524_3 :)⟩ (fun hHeld => ?_);refine with_tabW laws_eqMemberS.tab6 laws_eqMemberS.bits6 (fun HT_ HW_ => ?_)
        generalize wr.drew = w9 at HB hx523_0 hx523_1 hx523_2 hx523_3 hx524_0 hx524_1 hx524_2 hx524_3 hHeld ⊢
        refine pV (i:=0) (N:=some 17) #[Y,Z,Z,Z,Z,Z,Z,Z,Z,Z] rfl rfl qT ?_
        refine pV (i:=1) (N:=some 18) #[Y,Y,Z,Z,Z,Z,Z,Z,Z,Z] rfl rfl qT ?_
        refine pV (i:=2) (N:=some 19) #[Y,Y,Y,Z,Z,Z,Z,Z,Z,Z] rfl rfl qT ?_
        refine pV (i:=4) (N:=some 21) #[Y,Y,Y,Z,Y,Z,Z,Z,Z,Z] rfl rfl qT ?_
        refine pV (i:=5) (N:=some 22) #[Y,Y,Y,Z,Y,Y,Z,Z,Z,Z] rfl rfl qT ?_
        refine pV (i:=6) (N:=some 23) #[Y,Y,Y,Z,Y,Y,Y,Z,Z,Z] rfl rfl qT ?_
        refine tV8 (i:=3) (N:=some 20) #[Y,Y,Y,Y,Y,Y,Y,Z,Z,Z] rfl rfl (take_ofW HT_.out HW_.out (by kernel_rfl)) hHeld ?_
        refine tV8 (i:=7) (N:=some 24) #[Y,Y,Y,Y,Y,Y,Y,Y,Z,Z] rfl rfl (take_ofW HT_.out HW_.out (by kernel_rfl)) hHeld ?_
        refine one_ (i:=8) (N:=some 25) #[Y,Y,Y,Y,Y,Y,Y,Y,Y,Z] rfl rfl (one_of HT_.out (by kernel_rfl)) (by decide) (fun K hK => ?_);refine goes_ Try.func141 (by kernel_rfl) rfl #[.agg #[.int .i64 ((rd_T112 l0 x5_1).f0),.int .i64 ((rd_T112 l0 x5_1).f1),.int .i64 ((rd_T112 l0 x5_1).f2),.bool ((rd_T112 l0 x5_1).f3)],.agg #[.int .i64 ((rd_T112 l1 x5_1).f0),.int .i64 ((rd_T112 l1 x5_1).f1),.int .i64 ((rd_T112 l1 x5_1).f2),.bool ((rd_T112 l1 x5_1).f3)]] (by rfl) rfl rfl qq187 ?_;with_reducible refine (laws_eqMember.calls ((rd_T112 l0 x5_1).f0) ((rd_T112 l0 x5_1).f1) ((rd_T112 l0 x5_1).f2) ((rd_T112 l0 x5_1).f3) ((rd_T112 l1 x5_1).f0) ((rd_T112 l1 x5_1).f1) ((rd_T112 l1 x5_1).f2) ((rd_T112 l1 x5_1).f3) true _ A7.out).mono ?_
        rintro e w10 ⟨rfl,hb⟩
        refine ⟨_,rfl,?_⟩;replace HB:=am qq488;(try clear hb);(try clear hb2);(try clear hk);(try clear hi);refine hK.out _ _ ⟨(ct HB.out hw523_0 :),(ct HB.out hw523_1 :),(ct HB.out hw523_2 :),(ct HB.out hw523_3 :),(ct HB.out hw524_0 :),(ct HB.out hw524_1 :),(ct HB.out hw524_2 :),(ct HB.out hw524_3 :)⟩ (fun hHeld => ?_);clear hK K;refine norm_ (a':=?_) ?_ ?_;rotate_left
        ·show Act.put _ (some 25) _ = _
         simp only [Act.put,sA,s0,s1,i64_w,i32_w];rfl
        refine pV (i:=9) (N:=some 26) #[Y,Y,Y,Y,Y,Y,Y,Y,Y,Y] rfl rfl qT ?_
        refine done_ (done_of HT_.out (by kernel_rfl)) ?_
        try go_wp2
        go_roundg k1
        case measure => have:=HK1.out;omega
        case rel => exact ⟨(wrap64 (x5_1 + 1)),qq311,H',⟨qq331⟩,⟨qq208⟩⟩
       ·replace c8:=Bool.eq_false_iff.mpr c8;subst c8;have H1 : (some false) = some r:=by rw [if_neg (show ¬ (false = true) by decide)] at H;exact H
        clear H;have H:=H1;clear H1;obtain rfl:=Option.some.inj H
        try go_wp2
        replace HB:=am qq519;have p523 : 0 ≤ (x5_1 : Int):=odt qq309;have q523 : x5_1 < (l0.length : Int):=odt qq309;obtain ⟨ad523,e523,hx523_0,hx523_1,hx523_2,hx523_3⟩:=at_T112 HR0.out x5_1 p523 q523;have hw523_3:=hx523_3;have hw523_2:=hx523_2;have hw523_1:=hx523_1;have hw523_0:=hx523_0
        cases e523
        replace hx523_0:=(ct HB.out hx523_0 :)
        replace hx523_1:=(ct HB.out hx523_1 :)
        replace hx523_2:=(ct HB.out hx523_2 :)
        replace hx523_3:=(ct HB.out hx523_3 :)
        replace p523:=eq_true p523;replace q523:=eq_true q523;have p524 : 0 ≤ (x5_1 : Int):=odt qq309;have q524 : x5_1 < (l1.length : Int):=odt qq309;obtain ⟨ad524,e524,hx524_0,hx524_1,hx524_2,hx524_3⟩:=at_T112 HR1.out x5_1 p524 q524;have hw524_3:=hx524_3;have hw524_2:=hx524_2;have hw524_1:=hx524_1;have hw524_0:=hx524_0
        cases e524
        replace hx524_0:=(ct HB.out hx524_0 :)
        replace hx524_1:=(ct HB.out hx524_1 :)
        replace hx524_2:=(ct HB.out hx524_2 :)
        replace hx524_3:=(ct HB.out hx524_3 :)
        replace p524:=eq_true p524;replace q524:=eq_true q524;refine start_ (n:=10) (S:=fun w' => w'.cell? (ad523.add ((x5_1).toNat * 4)) = some (.int .i64 ((rd_T112 l0 x5_1).f0)) ∧ w'.cell? ⟨(ad523.add ((x5_1).toNat * 4)).block,(ad523.add ((x5_1).toNat * 4)).off + 1,none⟩ = some (.int .i64 ((rd_T112 l0 x5_1).f1)) ∧ w'.cell? ⟨(ad523.add ((x5_1).toNat * 4)).block,(ad523.add ((x5_1).toNat * 4)).off + 2,none⟩ = some (.int .i64 ((rd_T112 l0 x5_1).f2)) ∧ w'.cell? ⟨(ad523.add ((x5_1).toNat * 4)).block,(ad523.add ((x5_1).toNat * 4)).off + 3,none⟩ = some (.bool ((rd_T112 l0 x5_1).f3)) ∧ w'.cell? (ad524.add ((x5_1).toNat * 4)) = some (.int .i64 ((rd_T112 l1 x5_1).f0)) ∧ w'.cell? ⟨(ad524.add ((x5_1).toNat * 4)).block,(ad524.add ((x5_1).toNat * 4)).off + 1,none⟩ = some (.int .i64 ((rd_T112 l1 x5_1).f1)) ∧ w'.cell? ⟨(ad524.add ((x5_1).toNat * 4)).block,(ad524.add ((x5_1).toNat * 4)).off + 2,none⟩ = some (.int .i64 ((rd_T112 l1 x5_1).f2)) ∧ w'.cell? ⟨(ad524.add ((x5_1).toNat * 4)).block,(ad524.add ((x5_1).toNat * 4)).off + 3,none⟩ = some (.bool ((rd_T112 l1 x5_1).f3))) (ds:=[]) #[Z,Z,Z,Z,Z,Z,Z,Z,Z,Z] (by kernel_rfl) rfl rfl ⟨(ct HB.out hw523_0 :),(ct HB.out hw523_1 :),(ct HB.out hw523_2 :),(ct HB.out hw523_3 :),(ct HB.out hw524_0 :),(ct HB.out hw524_1 :),(ct HB.out hw524_2 :),(ct HB.out hw524_3 :)⟩ (fun hHeld => ?_);refine with_tabW laws_eqMemberS.tab6 laws_eqMemberS.bits6 (fun HT_ HW_ => ?_)
        generalize wr.drew = w11 at HB hx523_0 hx523_1 hx523_2 hx523_3 hx524_0 hx524_1 hx524_2 hx524_3 hHeld ⊢
        refine pV (i:=0) (N:=some 17) #[Y,Z,Z,Z,Z,Z,Z,Z,Z,Z] rfl rfl qT ?_
        refine pV (i:=1) (N:=some 18) #[Y,Y,Z,Z,Z,Z,Z,Z,Z,Z] rfl rfl qT ?_
        refine pV (i:=2) (N:=some 19) #[Y,Y,Y,Z,Z,Z,Z,Z,Z,Z] rfl rfl qT ?_
        refine pV (i:=4) (N:=some 21) #[Y,Y,Y,Z,Y,Z,Z,Z,Z,Z] rfl rfl qT ?_
        refine pV (i:=5) (N:=some 22) #[Y,Y,Y,Z,Y,Y,Z,Z,Z,Z] rfl rfl qT ?_
        refine pV (i:=6) (N:=some 23) #[Y,Y,Y,Z,Y,Y,Y,Z,Z,Z] rfl rfl qT ?_
        refine tV8 (i:=3) (N:=some 20) #[Y,Y,Y,Y,Y,Y,Y,Z,Z,Z] rfl rfl (take_ofW HT_.out HW_.out (by kernel_rfl)) hHeld ?_
        refine tV8 (i:=7) (N:=some 24) #[Y,Y,Y,Y,Y,Y,Y,Y,Z,Z] rfl rfl (take_ofW HT_.out HW_.out (by kernel_rfl)) hHeld ?_
        refine one_ (i:=8) (N:=some 25) #[Y,Y,Y,Y,Y,Y,Y,Y,Y,Z] rfl rfl (one_of HT_.out (by kernel_rfl)) (by decide) (fun K hK => ?_);refine goes_ Try.func141 (by kernel_rfl) rfl #[.agg #[.int .i64 ((rd_T112 l0 x5_1).f0),.int .i64 ((rd_T112 l0 x5_1).f1),.int .i64 ((rd_T112 l0 x5_1).f2),.bool ((rd_T112 l0 x5_1).f3)],.agg #[.int .i64 ((rd_T112 l1 x5_1).f0),.int .i64 ((rd_T112 l1 x5_1).f1),.int .i64 ((rd_T112 l1 x5_1).f2),.bool ((rd_T112 l1 x5_1).f3)]] (by rfl) rfl rfl qq187 ?_;with_reducible refine (laws_eqMember.calls ((rd_T112 l0 x5_1).f0) ((rd_T112 l0 x5_1).f1) ((rd_T112 l0 x5_1).f2) ((rd_T112 l0 x5_1).f3) ((rd_T112 l1 x5_1).f0) ((rd_T112 l1 x5_1).f1) ((rd_T112 l1 x5_1).f2) ((rd_T112 l1 x5_1).f3) false _ A7.out).mono ?_
        rintro e w12 ⟨rfl,hb⟩
        refine ⟨_,rfl,?_⟩;replace HB:=am qq488;(try clear hb);(try clear hb2);(try clear hk);(try clear hi);refine hK.out _ _ ⟨(ct HB.out hw523_0 :),(ct HB.out hw523_1 :),(ct HB.out hw523_2 :),(ct HB.out hw523_3 :),(ct HB.out hw524_0 :),(ct HB.out hw524_1 :),(ct HB.out hw524_2 :),(ct HB.out hw524_3 :)⟩ (fun hHeld => ?_);clear hK K;refine norm_ (a':=?_) ?_ ?_;rotate_left
        ·show Act.put _ (some 25) _ = _
         simp only [Act.put,sA,s0,s1,i64_w,i32_w];rfl
        refine pV (i:=9) (N:=some 26) #[Y,Y,Y,Y,Y,Y,Y,Y,Y,Y] rfl rfl qT ?_
        refine done_ (done_of HT_.out (by kernel_rfl)) ?_
        try go_wp2
        go_ret
        exact ⟨qq263,qq208⟩
      ·rw [if_neg c6] at H;exact absurd H (by simp)
     ·rw [if_neg c5] at H;exact absurd H (by simp)
    ·rw [if_neg c4] at H;have c4b0 : decide (x5_1 < (l0.length : Int)) = false:=decide_eq_false c4;clear c4;obtain rfl:=Option.some.inj H;go_wp2
     go_ret
     exact ⟨qq263,qq208⟩
 ·rw [if_neg c3] at H;have c3b0 : ((l0.length : Int) == (l1.length : Int)) = false:=beq_eq_false_iff_ne.mpr c3;have c3b1 : ((l0.length : Int) != (l1.length : Int)) = true:=bne_iff_ne.mpr c3;have c3b2 : (l0.length == l1.length) = false:=by first | simpa using c3 | (simp at c3 ⊢;omega)
  obtain rfl:=Option.some.inj H
  go_enter Try.func117,Try.ntmps117
  go_wp2
  go_ret
  exact ⟨qq263,qq208⟩

/-! ### laws_eqBoolS: function 118 -/
def laws_eqBoolS.l0 : Nat → List Bool → List Bool → Int → Option (Bool)
 | 0,_,_,_ => none
 | k + 1,x0,x1,x5 => if x5 < (x0.length : Int) then (if 0 ≤ x5 then (if x5 < (x1.length : Int) then (if ((rdOf false x0 x5) != (rdOf false x1 x5)) = true then (some false) else (laws_eqBoolS.l0 k x0 x1 (wrap64 (x5 + 1)))) else (none)) else (none)) else (some true)
def laws_eqBoolS.f (k : Nat) (l0 : List Bool) (l1 : List Bool) : Option (Bool) := if (l0.length : Int) = (l1.length : Int) then (laws_eqBoolS.l0 k l0 l1 0) else (some false)
set_option maxHeartbeats 8000000 in
set_option maxRecDepth 100000 in
theorem laws_eqBoolS.calls (k : Nat) (A0 : Option Addr) (c0 : Nat) (l0 : List Bool) (A1 : Option Addr) (c1 : Nat) (l1 : List Bool) (r : Bool) (w : World) (hr0 : Kd.C Kd.bool w A0 l0.length l0) (hc0 : l0.length ≤ c0) (hr1 : Kd.C Kd.bool w A1 l1.length l1) (hc1 : l1.length ≤ c1) (h : laws_eqBoolS.f k l0 l1 = some r) :
  Calls Try.prog 118 #[.slice A0 l0.length c0,.slice A1 l1.length c1] w fun e w' => e = .returned (.bool r) ∧ Drawn0 w w':=by
 have HR0:=am hr0;have HC0:=am hc0;clear hr0 hc0;have HR1:=am hr1;have HC1:=am hc1;clear hr1 hc1;have H : (if (l0.length : Int) = (l1.length : Int) then (laws_eqBoolS.l0 k l0 l1 0) else (some false)) = some r:=h;clear h
 by_cases c3 : (l0.length : Int) = (l1.length : Int)
 ·rw [if_pos c3] at H;have c3b0 : ((l0.length : Int) == (l1.length : Int)) = true:=beq_iff_eq.mpr c3;have c3b1 : ((l0.length : Int) != (l1.length : Int)) = false:=bne_eq_false_iff_eq.mpr c3;have c3b2 : (l0.length == l1.length) = true:=by first | simpa using c3 | (simp at c3 ⊢;omega)
  clear c3;have H':=am H;clear H
  go_enter Try.func118,Try.ntmps118
  go_wp2
  repeat (go_quiet (fail);try go_wp2)
  go_loopg [5] k (fun kq v5 w' => ∃ (x5_1 : Int),v5 = .int .i64 x5_1 ∧ Aside0 (laws_eqBoolS.l0 kq l0 l1 x5_1 = some r) ∧ Aside0 (kq ≤ k) ∧ Drawn0 w w')
  case atStart => exact ⟨(0),qq311,H',⟨Nat.le_refl _⟩,qq307⟩
  case round =>
   clear H'
   try clear c1
   try clear p2
   try clear c3
   try clear c3b0
   try clear c3b1
   try clear c3b2
   obtain ⟨x5_1,rfl,HA,HK1,⟨m1,rfl⟩⟩:=hrel
   cases gk with
   | zero => exact absurd HA.out (by simp [laws_eqBoolS.l0])
   | succ k1 =>
    have H:=HA.out;clear HA;simp only [laws_eqBoolS.l0] at H
    by_cases c4 : x5_1 < (l0.length : Int)
    ·rw [if_pos c4] at H;have c4b0 : decide (x5_1 < (l0.length : Int)) = true:=decide_eq_true c4;clear c4
     by_cases c5 : 0 ≤ x5_1
     ·rw [if_pos c5] at H;have c5b0 : decide (0 ≤ x5_1) = true:=decide_eq_true c5;clear c5
      by_cases c6 : x5_1 < (l1.length : Int)
      ·rw [if_pos c6] at H;have c6b0 : decide (x5_1 < (l1.length : Int)) = true:=decide_eq_true c6;clear c6
       by_cases c7 : ((rdOf false l0 x5_1) != (rdOf false l1 x5_1)) = true
       ·rw [if_pos c7] at H;have c7b0 : ((rdOf false l0 x5_1) != (rdOf false l1 x5_1)) = true:=c7;(try (have c7b1 : decide ((rdOf false l0 x5_1) = (rdOf false l1 x5_1)) = false:=by simpa using c7));(try (have c7b2 : ((rdOf false l0 x5_1) == (rdOf false l1 x5_1)) = false:=by simpa using c7));(try (have c7b3 : ¬ ((rdOf false l0 x5_1) = (rdOf false l1 x5_1)):=by simpa using c7));clear c7;obtain rfl:=Option.some.inj H;have p526 : 0 ≤ (x5_1 : Int):=odt qq309;have q526 : x5_1 < (l0.length : Int):=odt qq309;obtain ⟨ad526,e526,hx526_0⟩:=Kd.at_bool HR0.out x5_1 p526 q526
        cases e526
        replace p526:=eq_true p526;replace q526:=eq_true q526;have p527 : 0 ≤ (x5_1 : Int):=odt qq309;have q527 : x5_1 < (l1.length : Int):=odt qq309;obtain ⟨ad527,e527,hx527_0⟩:=Kd.at_bool HR1.out x5_1 p527 q527
        cases e527
        replace p527:=eq_true p527;replace q527:=eq_true q527;go_wp2
        repeat (go_quiet (fail);try go_wp2)
        go_ret
        exact ⟨qq311,qq307⟩
       ·rw [if_neg c7] at H;have c7b0 : ((rdOf false l0 x5_1) != (rdOf false l1 x5_1)) = false:=by simpa using c7
        (try (have c7b1 : decide ((rdOf false l0 x5_1) = (rdOf false l1 x5_1)) = true:=by simpa using c7));(try (have c7b2 : ((rdOf false l0 x5_1) == (rdOf false l1 x5_1)) = true:=by simpa using c7));clear c7;have H':=am H;clear H;have p526 : 0 ≤ (x5_1 : Int):=odt qq309;have q526 : x5_1 < (l0.length : Int):=odt qq309;obtain ⟨ad526,e526,hx526_0⟩:=Kd.at_bool HR0.out x5_1 p526 q526
        cases e526
        replace p526:=eq_true p526;replace q526:=eq_true q526;have p527 : 0 ≤ (x5_1 : Int):=odt qq309;have q527 : x5_1 < (l1.length : Int):=odt qq309;obtain ⟨ad527,e527,hx527_0⟩:=Kd.at_bool HR1.out x5_1 p527 q527
        cases e527
        replace p527:=eq_true p527;replace q527:=eq_true q527;go_wp2
        repeat (go_quiet (fail);try go_wp2)
        go_roundg k1
        case measure => have:=HK1.out;omega
        case rel => exact ⟨(wrap64 (x5_1 + 1)),qq311,H',⟨qq331⟩,qq307⟩
      ·rw [if_neg c6] at H;exact absurd H (by simp)
     ·rw [if_neg c5] at H;exact absurd H (by simp)
    ·rw [if_neg c4] at H;have c4b0 : decide (x5_1 < (l0.length : Int)) = false:=decide_eq_false c4;clear c4;obtain rfl:=Option.some.inj H;go_wp2
     repeat (go_quiet (fail);try go_wp2)
     go_ret
     exact ⟨qq311,qq307⟩
 ·rw [if_neg c3] at H;have c3b0 : ((l0.length : Int) == (l1.length : Int)) = false:=beq_eq_false_iff_ne.mpr c3;have c3b1 : ((l0.length : Int) != (l1.length : Int)) = true:=bne_iff_ne.mpr c3;have c3b2 : (l0.length == l1.length) = false:=by first | simpa using c3 | (simp at c3 ⊢;omega)
  obtain rfl:=Option.some.inj H
  go_enter Try.func118,Try.ntmps118
  go_wp2
  repeat (go_quiet (fail);try go_wp2)
  go_ret
  exact ⟨qq311,qq307⟩

/-! ### laws_eqParty: function 71 -/
def laws_eqParty.f (k : Nat) (a0_0 : Int) (a0_1 : Int) (l0_2 : List (S112)) (l0_3 : List Bool) (a1_0 : Int) (a1_1 : Int) (l1_2 : List (S112)) (l1_3 : List Bool) : Option (Bool) := if a0_0 = a1_0 then (if a0_1 = a1_1 then ((laws_eqMemberS.f k l0_2 l1_2).bind fun t530 => (if t530 = true then ((laws_eqBoolS.f k l0_3 l1_3).bind fun t531 => (if t531 = true then (some true) else (some false))) else (some false))) else (some false)) else (some false)
set_option maxHeartbeats 8000000 in
set_option maxRecDepth 100000 in
theorem laws_eqParty.calls (k : Nat) (a0_0 : Int) (a0_1 : Int) (A0_2 : Option Addr) (c0_2 : Nat) (l0_2 : List (S112)) (A0_3 : Option Addr) (c0_3 : Nat) (l0_3 : List Bool) (a1_0 : Int) (a1_1 : Int) (A1_2 : Option Addr) (c1_2 : Nat) (l1_2 : List (S112)) (A1_3 : Option Addr) (c1_3 : Nat) (l1_3 : List Bool) (r : Bool) (w : World) (hr0_2 : Kd.C k112 w A0_2 l0_2.length l0_2) (hc0_2 : l0_2.length ≤ c0_2) (hr0_3 : Kd.C Kd.bool w A0_3 l0_3.length l0_3) (hc0_3 : l0_3.length ≤ c0_3) (hr1_2 : Kd.C k112 w A1_2 l1_2.length l1_2) (hc1_2 : l1_2.length ≤ c1_2) (hr1_3 : Kd.C Kd.bool w A1_3 l1_3.length l1_3) (hc1_3 : l1_3.length ≤ c1_3) (h : laws_eqParty.f k a0_0 a0_1 l0_2 l0_3 a1_0 a1_1 l1_2 l1_3 = some r) :
  Calls Try.prog 71 #[.agg #[.int .i64 a0_0,.int .i64 a0_1,.slice A0_2 l0_2.length c0_2,.slice A0_3 l0_3.length c0_3],.agg #[.int .i64 a1_0,.int .i64 a1_1,.slice A1_2 l1_2.length c1_2,.slice A1_3 l1_3.length c1_3]] w fun e w' => e = .returned (.bool r) ∧ Below w.heap.size w w':=by
 have hu27:=Try.underlying27;have HR0_2:=am hr0_2;have HC0_2:=am hc0_2;clear hr0_2 hc0_2;have HR0_3:=am hr0_3;have HC0_3:=am hc0_3;clear hr0_3 hc0_3;have HR1_2:=am hr1_2;have HC1_2:=am hc1_2;clear hr1_2 hc1_2;have HR1_3:=am hr1_3;have HC1_3:=am hc1_3;clear hr1_3 hc1_3;have HB:=am qq465;have H : (if a0_0 = a1_0 then (if a0_1 = a1_1 then ((laws_eqMemberS.f k l0_2 l1_2).bind fun t530 => (if t530 = true then ((laws_eqBoolS.f k l0_3 l1_3).bind fun t531 => (if t531 = true then (some true) else (some false))) else (some false))) else (some false)) else (some false)) = some r:=h;clear h
 by_cases c3 : a0_0 = a1_0
 ·rw [if_pos c3] at H;have c3b0 : (a0_0 == a1_0) = true:=beq_iff_eq.mpr c3;have c3b1 : (a0_0 != a1_0) = false:=bne_eq_false_iff_eq.mpr c3;clear c3
  by_cases c4 : a0_1 = a1_1
  ·rw [if_pos c4] at H;have c4b0 : (a0_1 == a1_1) = true:=beq_iff_eq.mpr c4;have c4b1 : (a0_1 != a1_1) = false:=bne_eq_false_iff_eq.mpr c4;clear c4;replace H:=bS.mp H;obtain ⟨t530,A50,H⟩:=H;(try dsimp only at H);have A5:=am A50;clear A50
   by_cases c6 : t530 = true
   ·subst c6;rw [if_pos rfl] at H;replace H:=bS.mp H;obtain ⟨t531,A70,H⟩:=H;(try dsimp only at H);have A7:=am A70;clear A70
    by_cases c8 : t531 = true
    ·subst c8;rw [if_pos rfl] at H;obtain rfl:=Option.some.inj H
     go_enter Try.func71,Try.ntmps71
     go_wp2_with (first | ((with_reducible refine gate_dst (N:=2) rfl ?_);refine box_event ?hg (N:=2) ?hd (cs:=#[.int .i64 a0_0,.int .i64 a0_1,.slice A0_2 l0_2.length c0_2,.slice A0_3 l0_3.length c0_3]) (t:=27) ?hr ?_;(case hd => rfl);(case hg => rfl);(case hr => exact qq312);intro gb528 hg w9 hbox hb;have BK528:=am (hbox);have GW528:=am qq454;have GE528:=am qq454;replace HB:=am qq488;clear hb hbox hg) | ((with_reducible refine gate_dst (N:=3) rfl ?_);refine box_event ?hg (N:=3) ?hd (cs:=#[.int .i64 a1_0,.int .i64 a1_1,.slice A1_2 l1_2.length c1_2,.slice A1_3 l1_3.length c1_3]) (t:=27) ?hr ?_;(case hd => rfl);(case hg => rfl);(case hr => exact qq312);intro gb529 hg w10 hbox hb;have BK529:=am (hbox);have GW529:=am qq460;have GE529:=am qq460;replace HB:=am (below_step qq146 hb);have NB528_529:=am qq468;have NB529_528:=am qq469;replace BK528:=am qq354;clear hb hbox hg;have hnb11:=NB528_529.out;have hnc11:=NB529_528.out;obtain ⟨hcz12_0,hcz12_1,hcz12_2,hcz12_3,hfz12_0,hfz12_1,hfz12_2,hfz12_3⟩:=bcl4 BK528.out;obtain ⟨hcz13_0,hcz13_1,hcz13_2,hcz13_3,hfz13_0,hfz13_1,hfz13_2,hfz13_3⟩:=bcl4 BK529.out) | ((with_reducible refine gate_callee (f:=117) rfl ?_);refine goesL_ (some 19) rfl rfl Try.func117 (by kernel_rfl) rfl #[.slice A0_2 l0_2.length c0_2,.slice A1_2 l1_2.length c1_2] rfl qq187 ?_;(with_reducible refine (laws_eqMemberS.calls k _ _ l0_2 _ _ l1_2 true _ ?side1 ?side2 ?side3 ?side4 A5.out).mono ?_);(case side1 => exact qq117);(case side2 => exact qq334);(case side3 => exact qq115);(case side4 => exact HC1_2.out);rintro e w14 ⟨rfl,hb⟩;refine ⟨_,rfl,?_⟩;replace BK528:=am qq354;replace BK529:=am qq355;replace HB:=am (below_step qq90 hb);(try clear hb);(try clear hb2);(try clear hk);(try clear hi);obtain ⟨hcz15_0,hcz15_1,hcz15_2,hcz15_3,hfz15_0,hfz15_1,hfz15_2,hfz15_3⟩:=bcl4 BK528.out;obtain ⟨hcz16_0,hcz16_1,hcz16_2,hcz16_3,hfz16_0,hfz16_1,hfz16_2,hfz16_3⟩:=bcl4 BK529.out) | ((with_reducible refine gate_callee (f:=118) rfl ?_);refine goesL_ (some 25) rfl rfl Try.func118 (by kernel_rfl) rfl #[.slice A0_3 l0_3.length c0_3,.slice A1_3 l1_3.length c1_3] rfl qq187 ?_;(with_reducible refine (laws_eqBoolS.calls k _ _ l0_3 _ _ l1_3 true _ ?side1 ?side2 ?side3 ?side4 A7.out).mono ?_);(case side1 => exact qq116);(case side2 => exact HC0_3.out);(case side3 => exact qq114);(case side4 => exact HC1_3.out);rintro e w' ⟨rfl,⟨nd,rfl⟩⟩;refine ⟨_,rfl,?_⟩))
     go_ret
     exact ⟨qq263,qq90⟩
    ·replace c8:=Bool.eq_false_iff.mpr c8;subst c8;have H1 : (some false) = some r:=by rw [if_neg (show ¬ (false = true) by decide)] at H;exact H
     clear H;have H:=H1;clear H1;obtain rfl:=Option.some.inj H
     go_enter Try.func71,Try.ntmps71
     go_wp2_with (first | ((with_reducible refine gate_dst (N:=2) rfl ?_);refine box_event ?hg (N:=2) ?hd (cs:=#[.int .i64 a0_0,.int .i64 a0_1,.slice A0_2 l0_2.length c0_2,.slice A0_3 l0_3.length c0_3]) (t:=27) ?hr ?_;(case hd => rfl);(case hg => rfl);(case hr => exact qq312);intro gb528 hg w17 hbox hb;have BK528:=am (hbox);have GW528:=am qq454;have GE528:=am qq454;replace HB:=am qq488;clear hb hbox hg) | ((with_reducible refine gate_dst (N:=3) rfl ?_);refine box_event ?hg (N:=3) ?hd (cs:=#[.int .i64 a1_0,.int .i64 a1_1,.slice A1_2 l1_2.length c1_2,.slice A1_3 l1_3.length c1_3]) (t:=27) ?hr ?_;(case hd => rfl);(case hg => rfl);(case hr => exact qq312);intro gb529 hg w18 hbox hb;have BK529:=am (hbox);have GW529:=am qq460;have GE529:=am qq460;replace HB:=am (below_step qq146 hb);have NB528_529:=am qq468;have NB529_528:=am qq469;replace BK528:=am qq354;clear hb hbox hg;have hnb19:=NB528_529.out;have hnc19:=NB529_528.out;obtain ⟨hcz20_0,hcz20_1,hcz20_2,hcz20_3,hfz20_0,hfz20_1,hfz20_2,hfz20_3⟩:=bcl4 BK528.out;obtain ⟨hcz21_0,hcz21_1,hcz21_2,hcz21_3,hfz21_0,hfz21_1,hfz21_2,hfz21_3⟩:=bcl4 BK529.out) | ((with_reducible refine gate_callee (f:=117) rfl ?_);refine goesL_ (some 19) rfl rfl Try.func117 (by kernel_rfl) rfl #[.slice A0_2 l0_2.length c0_2,.slice A1_2 l1_2.length c1_2] rfl qq187 ?_;(with_reducible refine (laws_eqMemberS.calls k _ _ l0_2 _ _ l1_2 true _ ?side1 ?side2 ?side3 ?side4 A5.out).mono ?_);(case side1 => exact qq117);(case side2 => exact qq334);(case side3 => exact qq115);(case side4 => exact HC1_2.out);rintro e w22 ⟨rfl,hb⟩;refine ⟨_,rfl,?_⟩;replace BK528:=am qq354;replace BK529:=am qq355;replace HB:=am (below_step qq90 hb);(try clear hb);(try clear hb2);(try clear hk);(try clear hi);obtain ⟨hcz23_0,hcz23_1,hcz23_2,hcz23_3,hfz23_0,hfz23_1,hfz23_2,hfz23_3⟩:=bcl4 BK528.out;obtain ⟨hcz24_0,hcz24_1,hcz24_2,hcz24_3,hfz24_0,hfz24_1,hfz24_2,hfz24_3⟩:=bcl4 BK529.out) | ((with_reducible refine gate_callee (f:=118) rfl ?_);refine goesL_ (some 25) rfl rfl Try.func118 (by kernel_rfl) rfl #[.slice A0_3 l0_3.length c0_3,.slice A1_3 l1_3.length c1_3] rfl qq187 ?_;(with_reducible refine (laws_eqBoolS.calls k _ _ l0_3 _ _ l1_3 false _ ?side1 ?side2 ?side3 ?side4 A7.out).mono ?_);(case side1 => exact qq116);(case side2 => exact HC0_3.out);(case side3 => exact qq114);(case side4 => exact HC1_3.out);rintro e w' ⟨rfl,⟨nd,rfl⟩⟩;refine ⟨_,rfl,?_⟩))
     go_ret
     exact ⟨qq263,qq90⟩
   ·replace c6:=Bool.eq_false_iff.mpr c6;subst c6;have H1 : (some false) = some r:=by rw [if_neg (show ¬ (false = true) by decide)] at H;exact H
    clear H;have H:=H1;clear H1;obtain rfl:=Option.some.inj H
    go_enter Try.func71,Try.ntmps71
    go_wp2_with (first | ((with_reducible refine gate_dst (N:=2) rfl ?_);refine box_event ?hg (N:=2) ?hd (cs:=#[.int .i64 a0_0,.int .i64 a0_1,.slice A0_2 l0_2.length c0_2,.slice A0_3 l0_3.length c0_3]) (t:=27) ?hr ?_;(case hd => rfl);(case hg => rfl);(case hr => exact qq312);intro gb528 hg w25 hbox hb;have BK528:=am (hbox);have GW528:=am qq454;have GE528:=am qq454;replace HB:=am qq488;clear hb hbox hg) | ((with_reducible refine gate_dst (N:=3) rfl ?_);refine box_event ?hg (N:=3) ?hd (cs:=#[.int .i64 a1_0,.int .i64 a1_1,.slice A1_2 l1_2.length c1_2,.slice A1_3 l1_3.length c1_3]) (t:=27) ?hr ?_;(case hd => rfl);(case hg => rfl);(case hr => exact qq312);intro gb529 hg w26 hbox hb;have BK529:=am (hbox);have GW529:=am qq460;have GE529:=am qq460;replace HB:=am (below_step qq146 hb);have NB528_529:=am qq468;have NB529_528:=am qq469;replace BK528:=am qq354;clear hb hbox hg;have hnb27:=NB528_529.out;have hnc27:=NB529_528.out;obtain ⟨hcz28_0,hcz28_1,hcz28_2,hcz28_3,hfz28_0,hfz28_1,hfz28_2,hfz28_3⟩:=bcl4 BK528.out;obtain ⟨hcz29_0,hcz29_1,hcz29_2,hcz29_3,hfz29_0,hfz29_1,hfz29_2,hfz29_3⟩:=bcl4 BK529.out) | ((with_reducible refine gate_callee (f:=117) rfl ?_);refine goesL_ (some 19) rfl rfl Try.func117 (by kernel_rfl) rfl #[.slice A0_2 l0_2.length c0_2,.slice A1_2 l1_2.length c1_2] rfl qq187 ?_;(with_reducible refine (laws_eqMemberS.calls k _ _ l0_2 _ _ l1_2 false _ ?side1 ?side2 ?side3 ?side4 A5.out).mono ?_);(case side1 => exact qq117);(case side2 => exact qq334);(case side3 => exact qq115);(case side4 => exact HC1_2.out);rintro e w30 ⟨rfl,hb⟩;refine ⟨_,rfl,?_⟩;replace BK528:=am qq354;replace BK529:=am qq355;replace HB:=am (below_step qq90 hb);(try clear hb);(try clear hb2);(try clear hk);(try clear hi)))
    go_ret
    exact ⟨qq263,qq90⟩
  ·rw [if_neg c4] at H;have c4b0 : (a0_1 == a1_1) = false:=beq_eq_false_iff_ne.mpr c4;have c4b1 : (a0_1 != a1_1) = true:=bne_iff_ne.mpr c4;obtain rfl:=Option.some.inj H
   go_enter Try.func71,Try.ntmps71
   go_wp2_with (first | ((with_reducible refine gate_dst (N:=2) rfl ?_);refine box_event ?hg (N:=2) ?hd (cs:=#[.int .i64 a0_0,.int .i64 a0_1,.slice A0_2 l0_2.length c0_2,.slice A0_3 l0_3.length c0_3]) (t:=27) ?hr ?_;(case hd => rfl);(case hg => rfl);(case hr => exact qq312);intro gb528 hg w31 hbox hb;have BK528:=am (hbox);have GW528:=am qq454;have GE528:=am qq454;replace HB:=am qq488;clear hb hbox hg) | ((with_reducible refine gate_dst (N:=3) rfl ?_);refine box_event ?hg (N:=3) ?hd (cs:=#[.int .i64 a1_0,.int .i64 a1_1,.slice A1_2 l1_2.length c1_2,.slice A1_3 l1_3.length c1_3]) (t:=27) ?hr ?_;(case hd => rfl);(case hg => rfl);(case hr => exact qq312);intro gb529 hg w32 hbox hb;have BK529:=am (hbox);have GW529:=am qq460;have GE529:=am qq460;replace HB:=am (below_step qq146 hb);have NB528_529:=am qq468;have NB529_528:=am qq469;replace BK528:=am qq354;clear hb hbox hg;have hnb33:=NB528_529.out;have hnc33:=NB529_528.out;obtain ⟨hcz34_0,hcz34_1,hcz34_2,hcz34_3,hfz34_0,hfz34_1,hfz34_2,hfz34_3⟩:=bcl4 BK528.out;obtain ⟨hcz35_0,hcz35_1,hcz35_2,hcz35_3,hfz35_0,hfz35_1,hfz35_2,hfz35_3⟩:=bcl4 BK529.out))
   go_ret
   exact ⟨qq263,qq90⟩
 ·rw [if_neg c3] at H;have c3b0 : (a0_0 == a1_0) = false:=beq_eq_false_iff_ne.mpr c3;have c3b1 : (a0_0 != a1_0) = true:=bne_iff_ne.mpr c3;obtain rfl:=Option.some.inj H
  go_enter Try.func71,Try.ntmps71
  go_wp2_with (first | ((with_reducible refine gate_dst (N:=2) rfl ?_);refine box_event ?hg (N:=2) ?hd (cs:=#[.int .i64 a0_0,.int .i64 a0_1,.slice A0_2 l0_2.length c0_2,.slice A0_3 l0_3.length c0_3]) (t:=27) ?hr ?_;(case hd => rfl);(case hg => rfl);(case hr => exact qq312);intro gb528 hg w36 hbox hb;have BK528:=am (hbox);have GW528:=am qq454;have GE528:=am qq454;replace HB:=am qq488;clear hb hbox hg) | ((with_reducible refine gate_dst (N:=3) rfl ?_);refine box_event ?hg (N:=3) ?hd (cs:=#[.int .i64 a1_0,.int .i64 a1_1,.slice A1_2 l1_2.length c1_2,.slice A1_3 l1_3.length c1_3]) (t:=27) ?hr ?_;(case hd => rfl);(case hg => rfl);(case hr => exact qq312);intro gb529 hg w37 hbox hb;have BK529:=am (hbox);have GW529:=am qq460;have GE529:=am qq460;replace HB:=am (below_step qq146 hb);have NB528_529:=am qq468;have NB529_528:=am qq469;replace BK528:=am qq354;clear hb hbox hg;have hnb38:=NB528_529.out;have hnc38:=NB529_528.out;obtain ⟨hcz39_0,hcz39_1,hcz39_2,hcz39_3,hfz39_0,hfz39_1,hfz39_2,hfz39_3⟩:=bcl4 BK528.out;obtain ⟨hcz40_0,hcz40_1,hcz40_2,hcz40_3,hfz40_0,hfz40_1,hfz40_2,hfz40_3⟩:=bcl4 BK529.out))
  go_ret
  exact ⟨qq263,qq90⟩

end Go.Proofs.Ytcbkknpmeknppaa.PFnExactPlanFood
