/- Contracts of functions that the law FnExactPlanFood reaches, for its row: lines that the kit's printer wrote for this claim, set shorter by a program of this session (own.py), and what fell in Lean proved anew. Lean checks them. -/
import Derived.Test.YtcbkknpmeknppaaSFnExactPlanFoodx0
import Derived.Test.YtcbkknpmeknppaaSFnExactPlanFoodx1
namespace Go.Proofs.Ytcbkknpmeknppaa.PFnExactPlanFood
open Go.RowKit Go.Proofs.YtcbkknpmeknppaaW.PrintWords Go.Proofs.YtcbkknpmeknppaaW.PrintLast Go.Proofs.YtcbkknpmeknppaaW.PrintMore
attribute [local go_sem] max2_int min2_int max_two min_two max_three min_three max_four min_four   -- for this text's walks alone
set_option linter.unusedVariables false
set_option linter.unusedSimpArgs false

abbrev m0_2 : Array Bool := #[Z,Z,Z,Z,Z,Z,Z,Z,Z,Z,Z,Z,Z,Z,Z,Z,Z,Z,Z,Z,Z,Z,Z,Z,Z,Z,Z,Z,Z,Z,Z]
abbrev m1_2 : Array Bool := #[Y,Z,Z,Z,Z,Z,Z,Z,Z,Z,Z,Z,Z,Z,Z,Z,Z,Z,Z,Z,Z,Z,Z,Z,Z,Z,Z,Z,Z,Z,Z]
abbrev m2_2 : Array Bool := #[Y,Y,Z,Z,Z,Z,Z,Z,Z,Z,Z,Z,Z,Z,Z,Z,Z,Z,Z,Z,Z,Z,Z,Z,Z,Z,Z,Z,Z,Z,Z]
abbrev m3_2 : Array Bool := #[Y,Y,Y,Z,Z,Z,Z,Z,Z,Z,Z,Z,Z,Z,Z,Z,Z,Z,Z,Z,Z,Z,Z,Z,Z,Z,Z,Z,Z,Z,Z]
abbrev m4_2 : Array Bool := #[Y,Y,Y,Y,Z,Z,Z,Z,Z,Z,Z,Z,Z,Z,Z,Z,Z,Z,Z,Z,Z,Z,Z,Z,Z,Z,Z,Z,Z,Z,Z]
abbrev m5_2 : Array Bool := #[Y,Y,Y,Y,Y,Z,Z,Z,Z,Z,Z,Z,Z,Z,Z,Z,Z,Z,Z,Z,Z,Z,Z,Z,Z,Z,Z,Z,Z,Z,Z]
abbrev m6_2 : Array Bool := #[Y,Y,Y,Y,Y,Y,Z,Z,Z,Z,Z,Z,Z,Z,Z,Z,Z,Z,Z,Z,Z,Z,Z,Z,Z,Z,Z,Z,Z,Z,Z]
abbrev m7_2 : Array Bool := #[Y,Y,Y,Y,Y,Y,Y,Z,Z,Z,Z,Z,Z,Z,Z,Z,Z,Z,Z,Z,Z,Z,Z,Z,Z,Z,Z,Z,Z,Z,Z]
abbrev m8_2 : Array Bool := #[Y,Y,Y,Y,Y,Y,Y,Y,Z,Z,Z,Z,Z,Z,Z,Z,Z,Z,Z,Z,Z,Z,Z,Z,Z,Z,Z,Z,Z,Z,Z]
abbrev m9_2 : Array Bool := #[Y,Y,Y,Y,Y,Y,Y,Y,Y,Z,Z,Z,Z,Z,Z,Z,Z,Z,Z,Z,Z,Z,Z,Z,Z,Z,Z,Z,Z,Z,Z]
abbrev m10_2 : Array Bool := #[Y,Y,Y,Y,Y,Y,Y,Y,Y,Z,Y,Z,Z,Z,Z,Z,Z,Z,Z,Z,Z,Z,Z,Z,Z,Z,Z,Z,Z,Z,Z]
abbrev m11_2 : Array Bool := #[Y,Y,Y,Y,Y,Y,Y,Y,Y,Z,Y,Y,Z,Z,Z,Z,Z,Z,Z,Z,Z,Z,Z,Z,Z,Z,Z,Z,Z,Z,Z]
abbrev m12_2 : Array Bool := #[Y,Y,Y,Y,Y,Y,Y,Y,Y,Z,Y,Y,Y,Z,Z,Z,Z,Z,Z,Z,Z,Z,Z,Z,Z,Z,Z,Z,Z,Z,Z]
abbrev m13_2 : Array Bool := #[Y,Y,Y,Y,Y,Y,Y,Y,Y,Z,Y,Y,Y,Y,Z,Z,Z,Z,Z,Z,Z,Z,Z,Z,Z,Z,Z,Z,Z,Z,Z]
abbrev m14_2 : Array Bool := #[Y,Y,Y,Y,Y,Y,Y,Y,Y,Z,Y,Y,Y,Y,Y,Z,Z,Z,Z,Z,Z,Z,Z,Z,Z,Z,Z,Z,Z,Z,Z]
abbrev m15_2 : Array Bool := #[Y,Y,Y,Y,Y,Y,Y,Y,Y,Y,Y,Y,Y,Y,Y,Z,Z,Z,Z,Z,Z,Z,Z,Z,Z,Z,Z,Z,Z,Z,Z]
abbrev m16_2 : Array Bool := #[Y,Y,Y,Y,Y,Y,Y,Y,Y,Y,Y,Y,Y,Y,Y,Y,Z,Z,Z,Z,Z,Z,Z,Z,Z,Z,Z,Z,Z,Z,Z]
abbrev m17_2 : Array Bool := #[Y,Y,Y,Y,Y,Y,Y,Y,Y,Y,Y,Y,Y,Y,Y,Y,Y,Z,Z,Z,Z,Z,Z,Z,Z,Z,Z,Z,Z,Z,Z]
abbrev m18_2 : Array Bool := #[Y,Y,Y,Y,Y,Y,Y,Y,Y,Y,Y,Y,Y,Y,Y,Y,Y,Y,Z,Z,Z,Z,Z,Z,Z,Z,Z,Z,Z,Z,Z]
abbrev m19_2 : Array Bool := #[Y,Y,Y,Y,Y,Y,Y,Y,Y,Y,Y,Y,Y,Y,Y,Y,Y,Y,Y,Z,Z,Z,Z,Z,Z,Z,Z,Z,Z,Z,Z]
abbrev m20_2 : Array Bool := #[Y,Y,Y,Y,Y,Y,Y,Y,Y,Y,Y,Y,Y,Y,Y,Y,Y,Y,Y,Y,Z,Z,Z,Z,Z,Z,Z,Z,Z,Z,Z]
abbrev m21_2 : Array Bool := #[Y,Y,Y,Y,Y,Y,Y,Y,Y,Y,Y,Y,Y,Y,Y,Y,Y,Y,Y,Y,Y,Z,Z,Z,Z,Z,Z,Z,Z,Z,Z]
abbrev m22_2 : Array Bool := #[Y,Y,Y,Y,Y,Y,Y,Y,Y,Y,Y,Y,Y,Y,Y,Y,Y,Y,Y,Y,Y,Y,Z,Z,Z,Z,Z,Z,Z,Z,Z]
abbrev m23_2 : Array Bool := #[Y,Y,Y,Y,Y,Y,Y,Y,Y,Y,Y,Y,Y,Y,Y,Y,Y,Y,Y,Y,Y,Y,Y,Z,Z,Z,Z,Z,Z,Z,Z]
abbrev m24_2 : Array Bool := #[Y,Y,Y,Y,Y,Y,Y,Y,Y,Y,Y,Y,Y,Y,Y,Y,Y,Y,Y,Y,Y,Y,Y,Y,Z,Z,Z,Z,Z,Z,Z]
abbrev m25_2 : Array Bool := #[Y,Y,Y,Y,Y,Y,Y,Y,Y,Y,Y,Y,Y,Y,Y,Y,Y,Y,Y,Y,Y,Y,Y,Y,Y,Z,Z,Z,Z,Z,Z]
abbrev m26_2 : Array Bool := #[Y,Y,Y,Y,Y,Y,Y,Y,Y,Y,Y,Y,Y,Y,Y,Y,Y,Y,Y,Y,Y,Y,Y,Y,Y,Y,Z,Z,Z,Z,Z]
abbrev m27_2 : Array Bool := #[Y,Y,Y,Y,Y,Y,Y,Y,Y,Y,Y,Y,Y,Y,Y,Y,Y,Y,Y,Y,Y,Y,Y,Y,Y,Y,Y,Z,Z,Z,Z]
abbrev m28_2 : Array Bool := #[Y,Y,Y,Y,Y,Y,Y,Y,Y,Y,Y,Y,Y,Y,Y,Y,Y,Y,Y,Y,Y,Y,Y,Y,Y,Y,Y,Y,Z,Z,Z]
abbrev m29_2 : Array Bool := #[Y,Y,Y,Y,Y,Y,Y,Y,Y,Y,Y,Y,Y,Y,Y,Y,Y,Y,Y,Y,Y,Y,Y,Y,Y,Y,Y,Y,Y,Z,Z]
abbrev m30_2 : Array Bool := #[Y,Y,Y,Y,Y,Y,Y,Y,Y,Y,Y,Y,Y,Y,Y,Y,Y,Y,Y,Y,Y,Y,Y,Y,Y,Y,Y,Y,Y,Y,Z]
abbrev m31_2 : Array Bool := #[Y,Y,Y,Y,Y,Y,Y,Y,Y,Y,Y,Y,Y,Y,Y,Y,Y,Y,Y,Y,Y,Y,Y,Y,Y,Y,Y,Y,Y,Y,Y]
abbrev m32_2 : Array Bool := #[Y,Y,Y,Y,Y,Y,Y,Y,Y,Y,Z,Z,Z,Z,Z,Z,Z,Z,Z,Z,Z,Z,Z,Z,Z,Z,Z,Z,Z,Z,Z]
abbrev m33_2 : Array Bool := #[Y,Y,Y,Y,Y,Y,Y,Y,Y,Y,Y,Z,Z,Z,Z,Z,Z,Z,Z,Z,Z,Z,Z,Z,Z,Z,Z,Z,Z,Z,Z]
abbrev m34_2 : Array Bool := #[Y,Y,Y,Y,Y,Y,Y,Y,Y,Y,Y,Y,Z,Z,Z,Z,Z,Z,Z,Z,Z,Z,Z,Z,Z,Z,Z,Z,Z,Z,Z]
abbrev m35_2 : Array Bool := #[Y,Y,Y,Y,Y,Y,Y,Y,Y,Y,Y,Y,Y,Z,Z,Z,Z,Z,Z,Z,Z,Z,Z,Z,Z,Z,Z,Z,Z,Z,Z]
abbrev m36_2 : Array Bool := #[Y,Y,Y,Y,Y,Y,Y,Y,Y,Y,Y,Y,Y,Y,Z,Z,Z,Z,Z,Z,Z,Z,Z,Z,Z,Z,Z,Z,Z,Z,Z]
/-! ### impl_AreCrew: function 75 -/
mutual
def impl_AreCrew.l0 : Nat → List (S112) → List (S112) → Int → Int → Option (Bool)
 | 0,_,_,_,_ => none
 | k + 1,x0,x5,x6,x7 => if x7 < x6 then (if 0 ≤ x7 then (if x7 < (x5.length : Int) then ((impl_InRange.f ((rd_T112 x5 x7).f0) 1 99).bind fun t103 => (if t103 = true then (if x7 > 0 then (if 0 ≤ (wrap64 (x7 - 1)) then (if (wrap64 (x7 - 1)) < (x0.length : Int) then (if ((rd_T112 x5 x7).f0) ≤ ((rd_T112 x0 (wrap64 (x7 - 1))).f0) then (impl_AreCrew.j1 k x0 x5 x6 x7 true) else ((impl_InRange.f ((rd_T112 x5 x7).f1) 0 100).bind fun t105 => (if t105 = true then ((impl_InRange.f ((rd_T112 x5 x7).f2) 1 10).bind fun t106 => (impl_AreCrew.j1 k x0 x5 x6 x7 (!t106))) else (impl_AreCrew.j1 k x0 x5 x6 x7 true)))) else (none)) else (none)) else ((impl_InRange.f ((rd_T112 x5 x7).f1) 0 100).bind fun t107 => (if t107 = true then ((impl_InRange.f ((rd_T112 x5 x7).f2) 1 10).bind fun t108 => (impl_AreCrew.j1 k x0 x5 x6 x7 (!t108))) else (impl_AreCrew.j1 k x0 x5 x6 x7 true)))) else (impl_AreCrew.j1 k x0 x5 x6 x7 true))) else (none)) else (none)) else ((impl_InRange.f (x0.length : Int) 1 8).bind fun t109 => (some t109))
def impl_AreCrew.j1 : Nat → List (S112) → List (S112) → Int → Int → Bool → Option (Bool)
 | 0,_,_,_,_,_ => none
 | k + 1,x0,x5,x6,x7,x42 => if x42 = true then (some false) else (impl_AreCrew.l0 k x0 x5 x6 (wrap64 (x7 + 1)))
end
def impl_AreCrew.f (k : Nat) (l0 : List (S112)) : Option (Bool) := impl_AreCrew.l0 k l0 l0 (l0.length : Int) 0
def impl_AreCrew.T4 : Bool × List (List Nat × List Nat) := (true, [([], []), ([0], [0]), ([1], [1]), ([2], [2]), ([3, 2], [3]), ([4], [4]), ([5, 4], [4, 5]), ([6, 4, 4], [4, 6]), ([7], [7]), ([8, 7], [7, 8]), ([7], [7]), ([7], [7]), ([11, 7], [7, 11]), ([10, 12, 7], [7, 10, 12]), ([13, 7], [7, 13]), ([14, 7], [7, 14]), ([9, 15, 7], [7, 9, 15]), ([7, 16, 4], [4, 7, 16]), ([4, 17], [4, 17]), ([18, 7], [18]), ([19], [19]), ([20, 19], [19, 20]), ([21, 19, 19], [19, 21]), ([22, 19], [19, 22]), ([19, 23], [19, 23]), ([24, 22], [24]), ([25], [25]), ([26, 25], [25, 26]), ([27, 25, 25], [25, 27]), ([28, 25], [25, 28]), ([25, 29], [25, 29])])
def impl_AreCrew.B4 : List Nat := [0, 1, 3, 7, 15, 31, 63, 127, 255, 511, 255, 255, 2303, 7423, 15615, 31999, 65535, 131071, 262143, 524287, 1048575, 2097151, 4194303, 8388607, 16777215, 33554431, 67108863, 134217727, 268435455, 536870911, 1073741823]
theorem impl_AreCrew.tab4 : rtab .any (opsOf Try.f75 4) = impl_AreCrew.T4 := by kernel_rfl
theorem impl_AreCrew.bits4 : waitsOk impl_AreCrew.T4.2 impl_AreCrew.B4 = true := by kernel_rfl
set_option maxHeartbeats 8000000 in
set_option maxRecDepth 100000 in
theorem impl_AreCrew.calls (k : Nat) (A0 : Option Addr) (c0 : Nat) (l0 : List (S112)) (r : Bool) (w : World) (hr0 : Kd.C k112 w A0 l0.length l0) (hc0 : l0.length ≤ c0) (h : impl_AreCrew.f k l0 = some r) :
  Calls Try.prog 75 #[.slice A0 l0.length c0] w fun e w' => e = .returned (.bool r) ∧ Below w.heap.size w w':=by
 have hu112:=Try.underlying112;have HR0:=am hr0;have HC0:=am hc0;clear hr0 hc0;have HB:=am qq465;have H : (impl_AreCrew.l0 k l0 l0 (l0.length : Int) 0) = some r:=h;clear h;have H':=am H;clear H
 go_enter Try.func75,Try.ntmps75
 go_wp2
 go_loopg [7] k (fun kq v7 w' => ∃ (x7_1 : Int),v7 = .int .i64 x7_1 ∧ Aside0 (impl_AreCrew.l0 kq l0 l0 (l0.length : Int) x7_1 = some r) ∧ Aside0 (kq ≤ k) ∧ Aside0 (Below w.heap.size w w'))
 case atStart => exact ⟨(0),qq311,H',⟨Nat.le_refl _⟩,⟨qq208⟩⟩
 case round =>
  clear H';obtain ⟨x7_1,rfl,HA,HK1,HB⟩:=hrel
  cases gk with
  | zero => exact absurd HA.out (by simp [impl_AreCrew.l0])
  | succ k1 =>
   have H:=HA.out;clear HA;simp only [impl_AreCrew.l0] at H
   by_cases c2 : x7_1 < (l0.length : Int)
   ·rw [if_pos c2] at H;have c2b0 : decide (x7_1 < (l0.length : Int)) = true:=decide_eq_true c2;clear c2
    by_cases c3 : 0 ≤ x7_1
    ·rw [if_pos c3] at H;have c3b0 : decide (0 ≤ x7_1) = true:=decide_eq_true c3;clear c3
     by_cases c4 : x7_1 < (l0.length : Int)
     ·rw [if_pos c4] at H;have c4b0 : decide (x7_1 < (l0.length : Int)) = true:=decide_eq_true c4;clear c4;have HC5:=am H;clear H;have p101 : 0 ≤ (x7_1 : Int):=odt qq309;have q101 : x7_1 < (l0.length : Int):=odt qq309;obtain ⟨ad101,e101,hx101_0,hx101_1,hx101_2,hx101_3⟩:=at_T112 HR0.out x7_1 p101 q101
      cases e101
      replace hx101_0:=(ct HB.out hx101_0 :)
      replace hx101_1:=(ct HB.out hx101_1 :)
      replace hx101_2:=(ct HB.out hx101_2 :)
      replace hx101_3:=(ct HB.out hx101_3 :)
      replace p101:=eq_true p101;replace q101:=eq_true q101
      go_upto_region 4 with (first | ((with_reducible refine gate_dst (N:=4) rfl ?_);refine box_event ?hg (N:=4) ?hd (cs:=#[.int .i64 0,.int .i64 0,.int .i64 0,.bool false]) (t:=112) ?hr ?_;(case hd => rfl);(case hg => rfl);(case hr => exact qq312);intro gb102 hg w6 hbox hb;have BK102:=am (hbox);have GW102:=am ((qq144 : w.heap.size ≤ gb102));have GE102:=am ((qq144 : w.heap.size ≤ gb102));replace HB:=am qq488;clear hb hbox hg;obtain ⟨hcz7_0,hcz7_1,hcz7_2,hcz7_3,hfz7_0,hfz7_1,hfz7_2,hfz7_3⟩:=bcl4 BK102.out))
      (try simp only [Act.put,sA,s0,s1])
      go_cut [42] (fun v42 wc => ∃ (kq : Nat) (x42_4 : Bool),v42 = .bool x42_4 ∧ Aside0 (impl_AreCrew.j1 kq l0 l0 (l0.length : Int) x7_1 x42_4 = some r) ∧ Aside0 (kq ≤ k1) ∧ Aside0 (wc.heap[gb102]? = some (.cells #[.int .i64 ((rd_T112 l0 x7_1).f0),.int .i64 ((rd_T112 l0 x7_1).f1),.int .i64 ((rd_T112 l0 x7_1).f2),.bool ((rd_T112 l0 x7_1).f3)] 112 (0,0))) ∧ Aside0 (Below w.heap.size w wc))
      case first =>
       have H:=HC5.out;clear HC5;replace H:=bS.mp H;obtain ⟨t103,A80,H⟩:=H;(try dsimp only at H);have A8:=am A80;clear A80
       by_cases c9 : t103 = true
       ·subst c9;rw [if_pos rfl] at H
        by_cases c10 : x7_1 > 0
        ·rw [if_pos c10] at H;have c10b0 : decide (0 < x7_1) = true:=decide_eq_true c10;clear c10;(first | rw [c10b0] | (simp only [i64_w,i32_w];rw [c10b0]) | skip);obtain ⟨ji11,hji11⟩ : ∃ j_ : Int,(wrap64 (x7_1 - 1)) = j_:=⟨_,rfl⟩
         replace H : (if 0 ≤ (ji11) then (if (ji11) < (l0.length : Int) then (if ((rd_T112 l0 x7_1).f0) ≤ ((rd_T112 l0 (ji11)).f0) then (impl_AreCrew.j1 k1 l0 l0 (l0.length : Int) x7_1 true) else ((impl_InRange.f ((rd_T112 l0 x7_1).f1) 0 100).bind fun t105 => (if t105 = true then ((impl_InRange.f ((rd_T112 l0 x7_1).f2) 1 10).bind fun t106 => (impl_AreCrew.j1 k1 l0 l0 (l0.length : Int) x7_1 (!t106))) else (impl_AreCrew.j1 k1 l0 l0 (l0.length : Int) x7_1 true)))) else (none)) else (none)) = some r:=by first | (rw [hji11] at H;exact H) | (simp only [hji11] at H ⊢;exact H)
         (try rw [hji11] at A8);have hji11w : (IntKind.i64.wrap (x7_1 - 1)) = ji11:=(i64_w _).trans hji11
         by_cases c12 : 0 ≤ (ji11)
         ·rw [if_pos c12] at H;have c12b0 : decide (0 ≤ (ji11)) = true:=decide_eq_true c12;clear c12
          by_cases c13 : (ji11) < (l0.length : Int)
          ·rw [if_pos c13] at H;have c13b0 : decide ((ji11) < (l0.length : Int)) = true:=decide_eq_true c13;clear c13
           by_cases c14 : ((rd_T112 l0 x7_1).f0) ≤ ((rd_T112 l0 (ji11)).f0)
           ·rw [if_pos c14] at H;have c14b0 : decide (((rd_T112 l0 x7_1).f0) ≤ ((rd_T112 l0 (ji11)).f0)) = true:=decide_eq_true c14;clear c14;have H':=am H;clear H
            try go_wp2
            have n0_ : Aside0 (((((w6.setCell ⟨gb102,0,none⟩ (.int .i64 ((rd_T112 l0 x7_1).f0))).setCell ⟨gb102,1,none⟩ (.int .i64 ((rd_T112 l0 x7_1).f1))).setCell ⟨gb102,2,none⟩ (.int .i64 ((rd_T112 l0 x7_1).f2))).setCell ⟨gb102,3,none⟩ (.bool ((rd_T112 l0 x7_1).f3))).heap[gb102]? = some (.cells #[.int .i64 ((rd_T112 l0 x7_1).f0),.int .i64 ((rd_T112 l0 x7_1).f1),.int .i64 ((rd_T112 l0 x7_1).f2),.bool ((rd_T112 l0 x7_1).f3)] 112 (0,0))):=⟨qq1⟩
            have n1_ : Aside0 (Below w.heap.size w ((((w6.setCell ⟨gb102,0,none⟩ (.int .i64 ((rd_T112 l0 x7_1).f0))).setCell ⟨gb102,1,none⟩ (.int .i64 ((rd_T112 l0 x7_1).f1))).setCell ⟨gb102,2,none⟩ (.int .i64 ((rd_T112 l0 x7_1).f2))).setCell ⟨gb102,3,none⟩ (.bool ((rd_T112 l0 x7_1).f3)))):=⟨qq186⟩
            (try clear BK102);(try clear HB)
            generalize ((((w6.setCell ⟨gb102,0,none⟩ (.int .i64 ((rd_T112 l0 x7_1).f0))).setCell ⟨gb102,1,none⟩ (.int .i64 ((rd_T112 l0 x7_1).f1))).setCell ⟨gb102,2,none⟩ (.int .i64 ((rd_T112 l0 x7_1).f2))).setCell ⟨gb102,3,none⟩ (.bool ((rd_T112 l0 x7_1).f3))) = w15 at n0_ n1_ ⊢
            have BK102:=n0_;have HB:=n1_;clear n0_ n1_;replace BK102:=am qq518;replace HB:=am qq519;have p104 : 0 ≤ ((ji11) : Int):=odt qq309;have q104 : (ji11) < (l0.length : Int):=odt qq309;obtain ⟨ad104,e104,hx104_0,hx104_1,hx104_2,hx104_3⟩:=at_T112 HR0.out (ji11) p104 q104;have hw104_3:=hx104_3;have hw104_2:=hx104_2;have hw104_1:=hx104_1;have hw104_0:=hx104_0;obtain rfl : ad101 = ad104:=(by injection e104)
            replace hx104_0:=(ct HB.out hx104_0 :)
            replace hx104_1:=(ct HB.out hx104_1 :)
            replace hx104_2:=(ct HB.out hx104_2 :)
            replace hx104_3:=(ct HB.out hx104_3 :)
            replace p104:=eq_true p104;replace q104:=eq_true q104;refine start_ (n:=31) (S:=fun w' => w'.cell? ⟨gb102,0,none⟩ = some (.int .i64 ((rd_T112 l0 x7_1).f0)) ∧ w'.cell? ⟨gb102,1,none⟩ = some (.int .i64 ((rd_T112 l0 x7_1).f1)) ∧ w'.cell? ⟨gb102,2,none⟩ = some (.int .i64 ((rd_T112 l0 x7_1).f2)) ∧ w'.cell? ⟨gb102,3,none⟩ = some (.bool ((rd_T112 l0 x7_1).f3)) ∧ w'.cell? (ad101.add (((ji11)).toNat * 4)) = some (.int .i64 ((rd_T112 l0 (ji11)).f0)) ∧ w'.cell? ⟨(ad101.add (((ji11)).toNat * 4)).block,(ad101.add (((ji11)).toNat * 4)).off + 1,none⟩ = some (.int .i64 ((rd_T112 l0 (ji11)).f1)) ∧ w'.cell? ⟨(ad101.add (((ji11)).toNat * 4)).block,(ad101.add (((ji11)).toNat * 4)).off + 2,none⟩ = some (.int .i64 ((rd_T112 l0 (ji11)).f2)) ∧ w'.cell? ⟨(ad101.add (((ji11)).toNat * 4)).block,(ad101.add (((ji11)).toNat * 4)).off + 3,none⟩ = some (.bool ((rd_T112 l0 (ji11)).f3))) (ds:=[]) m0_2 (by kernel_rfl) rfl rfl ⟨(blk_cell BK102.out 0).trans rfl,(blk_cell BK102.out 1).trans rfl,(blk_cell BK102.out 2).trans rfl,(blk_cell BK102.out 3).trans rfl,(ct HB.out hw104_0 :),(ct HB.out hw104_1 :),(ct HB.out hw104_2 :),(ct HB.out hw104_3 :)⟩ (fun hHeld => ?_);refine with_tabW impl_AreCrew.tab4 impl_AreCrew.bits4 (fun HT_ HW_ => ?_)
            generalize w15.drew = w16 at BK102 HB hx104_0 hx104_1 hx104_2 hx104_3 hHeld ⊢
            refine pV (i:=0) (N:=some 12) m1_2 rfl rfl qT ?_
            refine tV8 (i:=1) (N:=some 13) m2_2 rfl rfl (take_ofW HT_.out HW_.out (by kernel_rfl)) hHeld ?_
            refine one_ (i:=2) (N:=some 14) m3_2 rfl rfl (one_of HT_.out (by kernel_rfl)) (by decide) (fun K hK => ?_);refine goes_ Try.func76 (by kernel_rfl) rfl #[.int .i64 ((rd_T112 l0 x7_1).f0),.int .i64 1,.int .i64 99] (by rfl) rfl rfl qq187 ?_;with_reducible refine (impl_InRange.calls ((rd_T112 l0 x7_1).f0) 1 99 true _ A8.out).mono ?_
            rintro e w' ⟨rfl,⟨nd,rfl⟩⟩
            refine ⟨_,rfl,?_⟩;refine hK.out _ _ ⟨(blk_cell BK102.out 0).trans rfl,(blk_cell BK102.out 1).trans rfl,(blk_cell BK102.out 2).trans rfl,(blk_cell BK102.out 3).trans rfl,(ct HB.out hw104_0 :),(ct HB.out hw104_1 :),(ct HB.out hw104_2 :),(ct HB.out hw104_3 :)⟩ (fun hHeld => ?_);clear hK K;refine norm_ (a':=?_) ?_ ?_;rotate_left
            ·show Act.put _ (some 14) _ = _
             simp only [Act.put,sA,s0,s1,i64_w,i32_w];rfl
            refine pV (i:=3) (N:=some 15) m4_2 rfl rfl qT ?_
            refine pV (i:=4) (N:=some 16) m5_2 rfl rfl qT ?_
            refine pV (i:=5) (N:=some 17) m6_2 rfl rfl qT ?_
            refine pV (i:=6) (N:=some 18) m7_2 rfl rfl qT ?_
            refine pV (i:=7) (N:=some 19) m8_2 rfl rfl qT ?_
            refine pV (i:=8) (N:=some 20) m9_2 rfl rfl qT ?_
            refine pV (i:=10) (N:=some 22) m10_2 rfl rfl qT ?_
            refine pV (i:=11) (N:=some 23) m11_2 rfl rfl qT ?_
            refine pV (i:=12) (N:=some 24) m12_2 rfl rfl qT ?_
            refine pV (i:=13) (N:=some 25) m13_2 rfl rfl qT ?_
            refine pV (i:=14) (N:=some 26) m14_2 rfl rfl qT ?_
            refine tV8 (i:=9) (N:=some 21) m15_2 rfl rfl (take_ofW HT_.out HW_.out (by kernel_rfl)) hHeld ?_
            refine tV8 (i:=15) (N:=some 27) m16_2 rfl rfl (take_ofW HT_.out HW_.out (by kernel_rfl)) hHeld ?_
            refine pV (i:=16) (N:=some 28) m17_2 rfl rfl qT ?_
            refine pV (i:=17) (N:=some 29) m18_2 rfl rfl qT ?_
            refine pV (i:=18) (N:=some 30) m19_2 rfl rfl qT ?_
            refine pV (i:=19) (N:=some 31) m20_2 rfl rfl qT ?_
            refine pW (i:=20) (N:=some 32) m21_2 rfl rfl qT ?_
            refine pW (i:=21) (N:=some 33) m22_2 rfl rfl qT ?_
            refine pW (i:=22) (N:=some 34) m23_2 rfl rfl qT ?_
            refine pW (i:=23) (N:=some 35) m24_2 rfl rfl qT ?_
            refine pV (i:=24) (N:=some 36) m25_2 rfl rfl qT ?_
            refine pV (i:=25) (N:=some 37) m26_2 rfl rfl qT ?_
            refine pW (i:=26) (N:=some 38) m27_2 rfl rfl qT ?_
            refine pW (i:=27) (N:=some 39) m28_2 rfl rfl qT ?_
            refine pW (i:=28) (N:=some 40) m29_2 rfl rfl qT ?_
            refine pW (i:=29) (N:=some 41) m30_2 rfl rfl qT ?_
            refine pV (i:=30) (N:=some 42) m31_2 rfl rfl qT ?_
            refine done_ (done_of HT_.out (by kernel_rfl)) ?_
            try go_wp2
            go_meet
            case rel => exact ⟨_,(true),qq311,H',⟨qq308⟩,⟨qq261⟩,⟨qq186⟩⟩
           ·rw [if_neg c14] at H;have c14b0 : decide (((rd_T112 l0 x7_1).f0) ≤ ((rd_T112 l0 (ji11)).f0)) = false:=decide_eq_false c14;clear c14;replace H:=bS.mp H;obtain ⟨t105,A170,H⟩:=H;(try dsimp only at H);have A17:=am A170;clear A170
            by_cases c18 : t105 = true
            ·subst c18;rw [if_pos rfl] at H;replace H:=bS.mp H;obtain ⟨t106,A190,H⟩:=H;(try dsimp only at H);have A19:=am A190;clear A190;have H':=am H;clear H
             try go_wp2
             have n0_ : Aside0 (((((w6.setCell ⟨gb102,0,none⟩ (.int .i64 ((rd_T112 l0 x7_1).f0))).setCell ⟨gb102,1,none⟩ (.int .i64 ((rd_T112 l0 x7_1).f1))).setCell ⟨gb102,2,none⟩ (.int .i64 ((rd_T112 l0 x7_1).f2))).setCell ⟨gb102,3,none⟩ (.bool ((rd_T112 l0 x7_1).f3))).heap[gb102]? = some (.cells #[.int .i64 ((rd_T112 l0 x7_1).f0),.int .i64 ((rd_T112 l0 x7_1).f1),.int .i64 ((rd_T112 l0 x7_1).f2),.bool ((rd_T112 l0 x7_1).f3)] 112 (0,0))):=⟨qq1⟩
             have n1_ : Aside0 (Below w.heap.size w ((((w6.setCell ⟨gb102,0,none⟩ (.int .i64 ((rd_T112 l0 x7_1).f0))).setCell ⟨gb102,1,none⟩ (.int .i64 ((rd_T112 l0 x7_1).f1))).setCell ⟨gb102,2,none⟩ (.int .i64 ((rd_T112 l0 x7_1).f2))).setCell ⟨gb102,3,none⟩ (.bool ((rd_T112 l0 x7_1).f3)))):=⟨qq186⟩
             (try clear BK102);(try clear HB)
             generalize ((((w6.setCell ⟨gb102,0,none⟩ (.int .i64 ((rd_T112 l0 x7_1).f0))).setCell ⟨gb102,1,none⟩ (.int .i64 ((rd_T112 l0 x7_1).f1))).setCell ⟨gb102,2,none⟩ (.int .i64 ((rd_T112 l0 x7_1).f2))).setCell ⟨gb102,3,none⟩ (.bool ((rd_T112 l0 x7_1).f3))) = w20 at n0_ n1_ ⊢
             have BK102:=n0_;have HB:=n1_;clear n0_ n1_;replace BK102:=am qq518;replace HB:=am qq519;have p104 : 0 ≤ ((ji11) : Int):=odt qq309;have q104 : (ji11) < (l0.length : Int):=odt qq309;obtain ⟨ad104,e104,hx104_0,hx104_1,hx104_2,hx104_3⟩:=at_T112 HR0.out (ji11) p104 q104;have hw104_3:=hx104_3;have hw104_2:=hx104_2;have hw104_1:=hx104_1;have hw104_0:=hx104_0;obtain rfl : ad101 = ad104:=(by injection e104)
             replace hx104_0:=(ct HB.out hx104_0 :)
             replace hx104_1:=(ct HB.out hx104_1 :)
             replace hx104_2:=(ct HB.out hx104_2 :)
             replace hx104_3:=(ct HB.out hx104_3 :)
             replace p104:=eq_true p104;replace q104:=eq_true q104;refine start_ (n:=31) (S:=fun w' => w'.cell? ⟨gb102,0,none⟩ = some (.int .i64 ((rd_T112 l0 x7_1).f0)) ∧ w'.cell? ⟨gb102,1,none⟩ = some (.int .i64 ((rd_T112 l0 x7_1).f1)) ∧ w'.cell? ⟨gb102,2,none⟩ = some (.int .i64 ((rd_T112 l0 x7_1).f2)) ∧ w'.cell? ⟨gb102,3,none⟩ = some (.bool ((rd_T112 l0 x7_1).f3)) ∧ w'.cell? (ad101.add (((ji11)).toNat * 4)) = some (.int .i64 ((rd_T112 l0 (ji11)).f0)) ∧ w'.cell? ⟨(ad101.add (((ji11)).toNat * 4)).block,(ad101.add (((ji11)).toNat * 4)).off + 1,none⟩ = some (.int .i64 ((rd_T112 l0 (ji11)).f1)) ∧ w'.cell? ⟨(ad101.add (((ji11)).toNat * 4)).block,(ad101.add (((ji11)).toNat * 4)).off + 2,none⟩ = some (.int .i64 ((rd_T112 l0 (ji11)).f2)) ∧ w'.cell? ⟨(ad101.add (((ji11)).toNat * 4)).block,(ad101.add (((ji11)).toNat * 4)).off + 3,none⟩ = some (.bool ((rd_T112 l0 (ji11)).f3))) (ds:=[]) m0_2 (by kernel_rfl) rfl rfl ⟨(blk_cell BK102.out 0).trans rfl,(blk_cell BK102.out 1).trans rfl,(blk_cell BK102.out 2).trans rfl,(blk_cell BK102.out 3).trans rfl,(ct HB.out hw104_0 :),(ct HB.out hw104_1 :),(ct HB.out hw104_2 :),(ct HB.out hw104_3 :)⟩ (fun hHeld => ?_);refine with_tabW impl_AreCrew.tab4 impl_AreCrew.bits4 (fun HT_ HW_ => ?_)
             generalize w20.drew = w21 at BK102 HB hx104_0 hx104_1 hx104_2 hx104_3 hHeld ⊢
             refine pV (i:=0) (N:=some 12) m1_2 rfl rfl qT ?_
             refine tV8 (i:=1) (N:=some 13) m2_2 rfl rfl (take_ofW HT_.out HW_.out (by kernel_rfl)) hHeld ?_
             refine one_ (i:=2) (N:=some 14) m3_2 rfl rfl (one_of HT_.out (by kernel_rfl)) (by decide) (fun K hK => ?_);refine goes_ Try.func76 (by kernel_rfl) rfl #[.int .i64 ((rd_T112 l0 x7_1).f0),.int .i64 1,.int .i64 99] (by rfl) rfl rfl qq187 ?_;with_reducible refine (impl_InRange.calls ((rd_T112 l0 x7_1).f0) 1 99 true _ A8.out).mono ?_
             rintro e w' ⟨rfl,⟨nd,rfl⟩⟩
             refine ⟨_,rfl,?_⟩;refine hK.out _ _ ⟨(blk_cell BK102.out 0).trans rfl,(blk_cell BK102.out 1).trans rfl,(blk_cell BK102.out 2).trans rfl,(blk_cell BK102.out 3).trans rfl,(ct HB.out hw104_0 :),(ct HB.out hw104_1 :),(ct HB.out hw104_2 :),(ct HB.out hw104_3 :)⟩ (fun hHeld => ?_);clear hK K;refine norm_ (a':=?_) ?_ ?_;rotate_left
             ·show Act.put _ (some 14) _ = _
              simp only [Act.put,sA,s0,s1,i64_w,i32_w];rfl
             refine pV (i:=3) (N:=some 15) m4_2 rfl rfl qT ?_
             refine pV (i:=4) (N:=some 16) m5_2 rfl rfl qT ?_
             refine pV (i:=5) (N:=some 17) m6_2 rfl rfl qT ?_
             refine pV (i:=6) (N:=some 18) m7_2 rfl rfl qT ?_
             refine pV (i:=7) (N:=some 19) m8_2 rfl rfl qT ?_
             refine pV (i:=8) (N:=some 20) m9_2 rfl rfl qT ?_
             refine pV (i:=10) (N:=some 22) m10_2 rfl rfl qT ?_
             refine pV (i:=11) (N:=some 23) m11_2 rfl rfl qT ?_
             refine pV (i:=12) (N:=some 24) m12_2 rfl rfl qT ?_
             refine pV (i:=13) (N:=some 25) m13_2 rfl rfl qT ?_
             refine pV (i:=14) (N:=some 26) m14_2 rfl rfl qT ?_
             refine tV8 (i:=9) (N:=some 21) m15_2 rfl rfl (take_ofW HT_.out HW_.out (by kernel_rfl)) hHeld ?_
             refine tV8 (i:=15) (N:=some 27) m16_2 rfl rfl (take_ofW HT_.out HW_.out (by kernel_rfl)) hHeld ?_
             refine pV (i:=16) (N:=some 28) m17_2 rfl rfl qT ?_
             refine pV (i:=17) (N:=some 29) m18_2 rfl rfl qT ?_
             refine pV (i:=18) (N:=some 30) m19_2 rfl rfl qT ?_
             refine pV (i:=19) (N:=some 31) m20_2 rfl rfl qT ?_
             refine pV (i:=20) (N:=some 32) m21_2 rfl rfl qT ?_
             refine tV8 (i:=21) (N:=some 33) m22_2 rfl rfl (take_ofW HT_.out HW_.out (by kernel_rfl)) hHeld ?_
             refine one_ (i:=22) (N:=some 34) m23_2 rfl rfl (one_of HT_.out (by kernel_rfl)) (by decide) (fun K hK => ?_);refine goes_ Try.func76 (by kernel_rfl) rfl #[.int .i64 ((rd_T112 l0 x7_1).f1),.int .i64 0,.int .i64 100] (by rfl) rfl rfl qq187 ?_;with_reducible refine (impl_InRange.calls ((rd_T112 l0 x7_1).f1) 0 100 true _ A17.out).mono ?_
             rintro e w' ⟨rfl,⟨nd,rfl⟩⟩
             refine ⟨_,rfl,?_⟩;refine hK.out _ _ ⟨(blk_cell BK102.out 0).trans rfl,(blk_cell BK102.out 1).trans rfl,(blk_cell BK102.out 2).trans rfl,(blk_cell BK102.out 3).trans rfl,(ct HB.out hw104_0 :),(ct HB.out hw104_1 :),(ct HB.out hw104_2 :),(ct HB.out hw104_3 :)⟩ (fun hHeld => ?_);clear hK K;refine norm_ (a':=?_) ?_ ?_;rotate_left
             ·show Act.put _ (some 34) _ = _
              simp only [Act.put,sA,s0,s1,i64_w,i32_w];rfl
             refine pV (i:=23) (N:=some 35) m24_2 rfl rfl qT ?_
             refine pV (i:=24) (N:=some 36) m25_2 rfl rfl qT ?_
             refine pV (i:=25) (N:=some 37) m26_2 rfl rfl qT ?_
             refine pV (i:=26) (N:=some 38) m27_2 rfl rfl qT ?_
             refine tV8 (i:=27) (N:=some 39) m28_2 rfl rfl (take_ofW HT_.out HW_.out (by kernel_rfl)) hHeld ?_
             refine one_ (i:=28) (N:=some 40) m29_2 rfl rfl (one_of HT_.out (by kernel_rfl)) (by decide) (fun K hK => ?_);refine goes_ Try.func76 (by kernel_rfl) rfl #[.int .i64 ((rd_T112 l0 x7_1).f2),.int .i64 1,.int .i64 10] (by rfl) rfl rfl qq187 ?_;with_reducible refine (impl_InRange.calls ((rd_T112 l0 x7_1).f2) 1 10 t106 _ A19.out).mono ?_
             rintro e w' ⟨rfl,⟨nd,rfl⟩⟩
             refine ⟨_,rfl,?_⟩;refine hK.out _ _ ⟨(blk_cell BK102.out 0).trans rfl,(blk_cell BK102.out 1).trans rfl,(blk_cell BK102.out 2).trans rfl,(blk_cell BK102.out 3).trans rfl,(ct HB.out hw104_0 :),(ct HB.out hw104_1 :),(ct HB.out hw104_2 :),(ct HB.out hw104_3 :)⟩ (fun hHeld => ?_);clear hK K;refine norm_ (a':=?_) ?_ ?_;rotate_left
             ·show Act.put _ (some 40) _ = _
              simp only [Act.put,sA,s0,s1,i64_w,i32_w];rfl
             refine pV (i:=29) (N:=some 41) m30_2 rfl rfl qT ?_
             refine pV (i:=30) (N:=some 42) m31_2 rfl rfl qT ?_
             refine done_ (done_of HT_.out (by kernel_rfl)) ?_
             try go_wp2
             go_meet
             case rel => exact ⟨_,(!t106),qq311,H',⟨qq308⟩,⟨qq261⟩,⟨qq186⟩⟩
            ·replace c18:=Bool.eq_false_iff.mpr c18;subst c18;have H1 : (impl_AreCrew.j1 k1 l0 l0 (l0.length : Int) x7_1 true) = some r:=by rw [if_neg (show ¬ (false = true) by decide)] at H;exact H
             clear H;have H:=H1;clear H1;have H':=am H;clear H
             try go_wp2
             have n0_ : Aside0 (((((w6.setCell ⟨gb102,0,none⟩ (.int .i64 ((rd_T112 l0 x7_1).f0))).setCell ⟨gb102,1,none⟩ (.int .i64 ((rd_T112 l0 x7_1).f1))).setCell ⟨gb102,2,none⟩ (.int .i64 ((rd_T112 l0 x7_1).f2))).setCell ⟨gb102,3,none⟩ (.bool ((rd_T112 l0 x7_1).f3))).heap[gb102]? = some (.cells #[.int .i64 ((rd_T112 l0 x7_1).f0),.int .i64 ((rd_T112 l0 x7_1).f1),.int .i64 ((rd_T112 l0 x7_1).f2),.bool ((rd_T112 l0 x7_1).f3)] 112 (0,0))):=⟨qq1⟩
             have n1_ : Aside0 (Below w.heap.size w ((((w6.setCell ⟨gb102,0,none⟩ (.int .i64 ((rd_T112 l0 x7_1).f0))).setCell ⟨gb102,1,none⟩ (.int .i64 ((rd_T112 l0 x7_1).f1))).setCell ⟨gb102,2,none⟩ (.int .i64 ((rd_T112 l0 x7_1).f2))).setCell ⟨gb102,3,none⟩ (.bool ((rd_T112 l0 x7_1).f3)))):=⟨qq186⟩
             (try clear BK102);(try clear HB)
             generalize ((((w6.setCell ⟨gb102,0,none⟩ (.int .i64 ((rd_T112 l0 x7_1).f0))).setCell ⟨gb102,1,none⟩ (.int .i64 ((rd_T112 l0 x7_1).f1))).setCell ⟨gb102,2,none⟩ (.int .i64 ((rd_T112 l0 x7_1).f2))).setCell ⟨gb102,3,none⟩ (.bool ((rd_T112 l0 x7_1).f3))) = w22 at n0_ n1_ ⊢
             have BK102:=n0_;have HB:=n1_;clear n0_ n1_;replace BK102:=am qq518;replace HB:=am qq519;have p104 : 0 ≤ ((ji11) : Int):=odt qq309;have q104 : (ji11) < (l0.length : Int):=odt qq309;obtain ⟨ad104,e104,hx104_0,hx104_1,hx104_2,hx104_3⟩:=at_T112 HR0.out (ji11) p104 q104;have hw104_3:=hx104_3;have hw104_2:=hx104_2;have hw104_1:=hx104_1;have hw104_0:=hx104_0;obtain rfl : ad101 = ad104:=(by injection e104)
             replace hx104_0:=(ct HB.out hx104_0 :)
             replace hx104_1:=(ct HB.out hx104_1 :)
             replace hx104_2:=(ct HB.out hx104_2 :)
             replace hx104_3:=(ct HB.out hx104_3 :)
             replace p104:=eq_true p104;replace q104:=eq_true q104;refine start_ (n:=31) (S:=fun w' => w'.cell? ⟨gb102,0,none⟩ = some (.int .i64 ((rd_T112 l0 x7_1).f0)) ∧ w'.cell? ⟨gb102,1,none⟩ = some (.int .i64 ((rd_T112 l0 x7_1).f1)) ∧ w'.cell? ⟨gb102,2,none⟩ = some (.int .i64 ((rd_T112 l0 x7_1).f2)) ∧ w'.cell? ⟨gb102,3,none⟩ = some (.bool ((rd_T112 l0 x7_1).f3)) ∧ w'.cell? (ad101.add (((ji11)).toNat * 4)) = some (.int .i64 ((rd_T112 l0 (ji11)).f0)) ∧ w'.cell? ⟨(ad101.add (((ji11)).toNat * 4)).block,(ad101.add (((ji11)).toNat * 4)).off + 1,none⟩ = some (.int .i64 ((rd_T112 l0 (ji11)).f1)) ∧ w'.cell? ⟨(ad101.add (((ji11)).toNat * 4)).block,(ad101.add (((ji11)).toNat * 4)).off + 2,none⟩ = some (.int .i64 ((rd_T112 l0 (ji11)).f2)) ∧ w'.cell? ⟨(ad101.add (((ji11)).toNat * 4)).block,(ad101.add (((ji11)).toNat * 4)).off + 3,none⟩ = some (.bool ((rd_T112 l0 (ji11)).f3))) (ds:=[]) m0_2 (by kernel_rfl) rfl rfl ⟨(blk_cell BK102.out 0).trans rfl,(blk_cell BK102.out 1).trans rfl,(blk_cell BK102.out 2).trans rfl,(blk_cell BK102.out 3).trans rfl,(ct HB.out hw104_0 :),(ct HB.out hw104_1 :),(ct HB.out hw104_2 :),(ct HB.out hw104_3 :)⟩ (fun hHeld => ?_);refine with_tabW impl_AreCrew.tab4 impl_AreCrew.bits4 (fun HT_ HW_ => ?_)
             generalize w22.drew = w23 at BK102 HB hx104_0 hx104_1 hx104_2 hx104_3 hHeld ⊢
             refine pV (i:=0) (N:=some 12) m1_2 rfl rfl qT ?_
             refine tV8 (i:=1) (N:=some 13) m2_2 rfl rfl (take_ofW HT_.out HW_.out (by kernel_rfl)) hHeld ?_
             refine one_ (i:=2) (N:=some 14) m3_2 rfl rfl (one_of HT_.out (by kernel_rfl)) (by decide) (fun K hK => ?_);refine goes_ Try.func76 (by kernel_rfl) rfl #[.int .i64 ((rd_T112 l0 x7_1).f0),.int .i64 1,.int .i64 99] (by rfl) rfl rfl qq187 ?_;with_reducible refine (impl_InRange.calls ((rd_T112 l0 x7_1).f0) 1 99 true _ A8.out).mono ?_
             rintro e w' ⟨rfl,⟨nd,rfl⟩⟩
             refine ⟨_,rfl,?_⟩;refine hK.out _ _ ⟨(blk_cell BK102.out 0).trans rfl,(blk_cell BK102.out 1).trans rfl,(blk_cell BK102.out 2).trans rfl,(blk_cell BK102.out 3).trans rfl,(ct HB.out hw104_0 :),(ct HB.out hw104_1 :),(ct HB.out hw104_2 :),(ct HB.out hw104_3 :)⟩ (fun hHeld => ?_);clear hK K;refine norm_ (a':=?_) ?_ ?_;rotate_left
             ·show Act.put _ (some 14) _ = _
              simp only [Act.put,sA,s0,s1,i64_w,i32_w];rfl
             refine pV (i:=3) (N:=some 15) m4_2 rfl rfl qT ?_
             refine pV (i:=4) (N:=some 16) m5_2 rfl rfl qT ?_
             refine pV (i:=5) (N:=some 17) m6_2 rfl rfl qT ?_
             refine pV (i:=6) (N:=some 18) m7_2 rfl rfl qT ?_
             refine pV (i:=7) (N:=some 19) m8_2 rfl rfl qT ?_
             refine pV (i:=8) (N:=some 20) m9_2 rfl rfl qT ?_
             refine pV (i:=10) (N:=some 22) m10_2 rfl rfl qT ?_
             refine pV (i:=11) (N:=some 23) m11_2 rfl rfl qT ?_
             refine pV (i:=12) (N:=some 24) m12_2 rfl rfl qT ?_
             refine pV (i:=13) (N:=some 25) m13_2 rfl rfl qT ?_
             refine pV (i:=14) (N:=some 26) m14_2 rfl rfl qT ?_
             refine tV8 (i:=9) (N:=some 21) m15_2 rfl rfl (take_ofW HT_.out HW_.out (by kernel_rfl)) hHeld ?_
             refine tV8 (i:=15) (N:=some 27) m16_2 rfl rfl (take_ofW HT_.out HW_.out (by kernel_rfl)) hHeld ?_
             refine pV (i:=16) (N:=some 28) m17_2 rfl rfl qT ?_
             refine pV (i:=17) (N:=some 29) m18_2 rfl rfl qT ?_
             refine pV (i:=18) (N:=some 30) m19_2 rfl rfl qT ?_
             refine pV (i:=19) (N:=some 31) m20_2 rfl rfl qT ?_
             refine pV (i:=20) (N:=some 32) m21_2 rfl rfl qT ?_
             refine tV8 (i:=21) (N:=some 33) m22_2 rfl rfl (take_ofW HT_.out HW_.out (by kernel_rfl)) hHeld ?_
             refine one_ (i:=22) (N:=some 34) m23_2 rfl rfl (one_of HT_.out (by kernel_rfl)) (by decide) (fun K hK => ?_);refine goes_ Try.func76 (by kernel_rfl) rfl #[.int .i64 ((rd_T112 l0 x7_1).f1),.int .i64 0,.int .i64 100] (by rfl) rfl rfl qq187 ?_;with_reducible refine (impl_InRange.calls ((rd_T112 l0 x7_1).f1) 0 100 false _ A17.out).mono ?_
             rintro e w' ⟨rfl,⟨nd,rfl⟩⟩
             refine ⟨_,rfl,?_⟩;refine hK.out _ _ ⟨(blk_cell BK102.out 0).trans rfl,(blk_cell BK102.out 1).trans rfl,(blk_cell BK102.out 2).trans rfl,(blk_cell BK102.out 3).trans rfl,(ct HB.out hw104_0 :),(ct HB.out hw104_1 :),(ct HB.out hw104_2 :),(ct HB.out hw104_3 :)⟩ (fun hHeld => ?_);clear hK K;refine norm_ (a':=?_) ?_ ?_;rotate_left
             ·show Act.put _ (some 34) _ = _
              simp only [Act.put,sA,s0,s1,i64_w,i32_w];rfl
             refine pV (i:=23) (N:=some 35) m24_2 rfl rfl qT ?_
             refine pV (i:=24) (N:=some 36) m25_2 rfl rfl qT ?_
             refine pV (i:=25) (N:=some 37) m26_2 rfl rfl qT ?_
             refine pW (i:=26) (N:=some 38) m27_2 rfl rfl qT ?_
             refine pW (i:=27) (N:=some 39) m28_2 rfl rfl qT ?_
             refine pW (i:=28) (N:=some 40) m29_2 rfl rfl qT ?_
             refine pW (i:=29) (N:=some 41) m30_2 rfl rfl qT ?_
             refine pV (i:=30) (N:=some 42) m31_2 rfl rfl qT ?_
             refine done_ (done_of HT_.out (by kernel_rfl)) ?_
             try go_wp2
             go_meet
             case rel => exact ⟨_,(true),qq311,H',⟨qq308⟩,⟨qq261⟩,⟨qq186⟩⟩
          ·rw [if_neg c13] at H;exact absurd H (by simp)
         ·rw [if_neg c12] at H;exact absurd H (by simp)
        ·rw [if_neg c10] at H;have c10b0 : decide (0 < x7_1) = false:=decide_eq_false c10;clear c10;(first | rw [c10b0] | (simp only [i64_w,i32_w];rw [c10b0]) | skip);replace H:=bS.mp H;obtain ⟨t107,A240,H⟩:=H;(try dsimp only at H);have A24:=am A240;clear A240
         by_cases c25 : t107 = true
         ·subst c25;rw [if_pos rfl] at H;replace H:=bS.mp H;obtain ⟨t108,A260,H⟩:=H;(try dsimp only at H);have A26:=am A260;clear A260;have H':=am H;clear H
          try go_wp2
          have n0_ : Aside0 (((((w6.setCell ⟨gb102,0,none⟩ (.int .i64 ((rd_T112 l0 x7_1).f0))).setCell ⟨gb102,1,none⟩ (.int .i64 ((rd_T112 l0 x7_1).f1))).setCell ⟨gb102,2,none⟩ (.int .i64 ((rd_T112 l0 x7_1).f2))).setCell ⟨gb102,3,none⟩ (.bool ((rd_T112 l0 x7_1).f3))).heap[gb102]? = some (.cells #[.int .i64 ((rd_T112 l0 x7_1).f0),.int .i64 ((rd_T112 l0 x7_1).f1),.int .i64 ((rd_T112 l0 x7_1).f2),.bool ((rd_T112 l0 x7_1).f3)] 112 (0,0))):=⟨qq1⟩
          have n1_ : Aside0 (Below w.heap.size w ((((w6.setCell ⟨gb102,0,none⟩ (.int .i64 ((rd_T112 l0 x7_1).f0))).setCell ⟨gb102,1,none⟩ (.int .i64 ((rd_T112 l0 x7_1).f1))).setCell ⟨gb102,2,none⟩ (.int .i64 ((rd_T112 l0 x7_1).f2))).setCell ⟨gb102,3,none⟩ (.bool ((rd_T112 l0 x7_1).f3)))):=⟨qq186⟩
          (try clear BK102);(try clear HB)
          generalize ((((w6.setCell ⟨gb102,0,none⟩ (.int .i64 ((rd_T112 l0 x7_1).f0))).setCell ⟨gb102,1,none⟩ (.int .i64 ((rd_T112 l0 x7_1).f1))).setCell ⟨gb102,2,none⟩ (.int .i64 ((rd_T112 l0 x7_1).f2))).setCell ⟨gb102,3,none⟩ (.bool ((rd_T112 l0 x7_1).f3))) = w27 at n0_ n1_ ⊢
          have BK102:=n0_;have HB:=n1_;clear n0_ n1_;replace BK102:=am qq518;replace HB:=am qq519;refine start_ (n:=31) (S:=fun w' => w'.cell? ⟨gb102,0,none⟩ = some (.int .i64 ((rd_T112 l0 x7_1).f0)) ∧ w'.cell? ⟨gb102,1,none⟩ = some (.int .i64 ((rd_T112 l0 x7_1).f1)) ∧ w'.cell? ⟨gb102,2,none⟩ = some (.int .i64 ((rd_T112 l0 x7_1).f2)) ∧ w'.cell? ⟨gb102,3,none⟩ = some (.bool ((rd_T112 l0 x7_1).f3))) (ds:=[]) m0_2 (by kernel_rfl) rfl rfl ⟨(blk_cell BK102.out 0).trans rfl,(blk_cell BK102.out 1).trans rfl,(blk_cell BK102.out 2).trans rfl,(blk_cell BK102.out 3).trans rfl⟩ (fun hHeld => ?_);refine with_tabW impl_AreCrew.tab4 impl_AreCrew.bits4 (fun HT_ HW_ => ?_)
          generalize w27.drew = w28 at BK102 HB hHeld ⊢
          refine pV (i:=0) (N:=some 12) m1_2 rfl rfl qT ?_
          refine tV4 (i:=1) (N:=some 13) m2_2 rfl rfl (take_ofW HT_.out HW_.out (by kernel_rfl)) hHeld ?_
          refine one_ (i:=2) (N:=some 14) m3_2 rfl rfl (one_of HT_.out (by kernel_rfl)) (by decide) (fun K hK => ?_);refine goes_ Try.func76 (by kernel_rfl) rfl #[.int .i64 ((rd_T112 l0 x7_1).f0),.int .i64 1,.int .i64 99] (by rfl) rfl rfl qq187 ?_;with_reducible refine (impl_InRange.calls ((rd_T112 l0 x7_1).f0) 1 99 true _ A8.out).mono ?_
          rintro e w' ⟨rfl,⟨nd,rfl⟩⟩
          refine ⟨_,rfl,?_⟩;refine hK.out _ _ ⟨(blk_cell BK102.out 0).trans rfl,(blk_cell BK102.out 1).trans rfl,(blk_cell BK102.out 2).trans rfl,(blk_cell BK102.out 3).trans rfl⟩ (fun hHeld => ?_);clear hK K;refine norm_ (a':=?_) ?_ ?_;rotate_left
          ·show Act.put _ (some 14) _ = _
           simp only [Act.put,sA,s0,s1,i64_w,i32_w];rfl
          refine pV (i:=3) (N:=some 15) m4_2 rfl rfl qT ?_
          refine pV (i:=4) (N:=some 16) m5_2 rfl rfl qT ?_
          refine pV (i:=5) (N:=some 17) m6_2 rfl rfl qT ?_
          refine pV (i:=6) (N:=some 18) m7_2 rfl rfl qT ?_
          refine pV (i:=7) (N:=some 19) m8_2 rfl rfl qT ?_
          refine pW (i:=8) (N:=some 20) m9_2 rfl rfl qT ?_
          refine pW (i:=9) (N:=some 21) m32_2 rfl rfl qT ?_
          refine pW (i:=10) (N:=some 22) m33_2 rfl rfl qT ?_
          refine pW (i:=11) (N:=some 23) m34_2 rfl rfl qT ?_
          refine pW (i:=12) (N:=some 24) m35_2 rfl rfl qT ?_
          refine pW (i:=13) (N:=some 25) m36_2 rfl rfl qT ?_
          refine pW (i:=14) (N:=some 26) m15_2 rfl rfl qT ?_
          refine pW (i:=15) (N:=some 27) m16_2 rfl rfl qT ?_
          refine pW (i:=16) (N:=some 28) m17_2 rfl rfl qT ?_
          refine pV (i:=17) (N:=some 29) m18_2 rfl rfl qT ?_
          refine pV (i:=18) (N:=some 30) m19_2 rfl rfl qT ?_
          refine pV (i:=19) (N:=some 31) m20_2 rfl rfl qT ?_
          refine pV (i:=20) (N:=some 32) m21_2 rfl rfl qT ?_
          refine tV4 (i:=21) (N:=some 33) m22_2 rfl rfl (take_ofW HT_.out HW_.out (by kernel_rfl)) hHeld ?_
          refine one_ (i:=22) (N:=some 34) m23_2 rfl rfl (one_of HT_.out (by kernel_rfl)) (by decide) (fun K hK => ?_);refine goes_ Try.func76 (by kernel_rfl) rfl #[.int .i64 ((rd_T112 l0 x7_1).f1),.int .i64 0,.int .i64 100] (by rfl) rfl rfl qq187 ?_;with_reducible refine (impl_InRange.calls ((rd_T112 l0 x7_1).f1) 0 100 true _ A24.out).mono ?_
          rintro e w' ⟨rfl,⟨nd,rfl⟩⟩
          refine ⟨_,rfl,?_⟩;refine hK.out _ _ ⟨(blk_cell BK102.out 0).trans rfl,(blk_cell BK102.out 1).trans rfl,(blk_cell BK102.out 2).trans rfl,(blk_cell BK102.out 3).trans rfl⟩ (fun hHeld => ?_);clear hK K;refine norm_ (a':=?_) ?_ ?_;rotate_left
          ·show Act.put _ (some 34) _ = _
           simp only [Act.put,sA,s0,s1,i64_w,i32_w];rfl
          refine pV (i:=23) (N:=some 35) m24_2 rfl rfl qT ?_
          refine pV (i:=24) (N:=some 36) m25_2 rfl rfl qT ?_
          refine pV (i:=25) (N:=some 37) m26_2 rfl rfl qT ?_
          refine pV (i:=26) (N:=some 38) m27_2 rfl rfl qT ?_
          refine tV4 (i:=27) (N:=some 39) m28_2 rfl rfl (take_ofW HT_.out HW_.out (by kernel_rfl)) hHeld ?_
          refine one_ (i:=28) (N:=some 40) m29_2 rfl rfl (one_of HT_.out (by kernel_rfl)) (by decide) (fun K hK => ?_);refine goes_ Try.func76 (by kernel_rfl) rfl #[.int .i64 ((rd_T112 l0 x7_1).f2),.int .i64 1,.int .i64 10] (by rfl) rfl rfl qq187 ?_;with_reducible refine (impl_InRange.calls ((rd_T112 l0 x7_1).f2) 1 10 t108 _ A26.out).mono ?_
          rintro e w' ⟨rfl,⟨nd,rfl⟩⟩
          refine ⟨_,rfl,?_⟩;refine hK.out _ _ ⟨(blk_cell BK102.out 0).trans rfl,(blk_cell BK102.out 1).trans rfl,(blk_cell BK102.out 2).trans rfl,(blk_cell BK102.out 3).trans rfl⟩ (fun hHeld => ?_);clear hK K;refine norm_ (a':=?_) ?_ ?_;rotate_left
          ·show Act.put _ (some 40) _ = _
           simp only [Act.put,sA,s0,s1,i64_w,i32_w];rfl
          refine pV (i:=29) (N:=some 41) m30_2 rfl rfl qT ?_
          refine pV (i:=30) (N:=some 42) m31_2 rfl rfl qT ?_
          refine done_ (done_of HT_.out (by kernel_rfl)) ?_
          try go_wp2
          go_meet
          case rel => exact ⟨_,(!t108),qq311,H',⟨qq308⟩,⟨qq261⟩,⟨qq186⟩⟩
         ·replace c25:=Bool.eq_false_iff.mpr c25;subst c25;have H1 : (impl_AreCrew.j1 k1 l0 l0 (l0.length : Int) x7_1 true) = some r:=by rw [if_neg (show ¬ (false = true) by decide)] at H;exact H
          clear H;have H:=H1;clear H1;have H':=am H;clear H
          try go_wp2
          have n0_ : Aside0 (((((w6.setCell ⟨gb102,0,none⟩ (.int .i64 ((rd_T112 l0 x7_1).f0))).setCell ⟨gb102,1,none⟩ (.int .i64 ((rd_T112 l0 x7_1).f1))).setCell ⟨gb102,2,none⟩ (.int .i64 ((rd_T112 l0 x7_1).f2))).setCell ⟨gb102,3,none⟩ (.bool ((rd_T112 l0 x7_1).f3))).heap[gb102]? = some (.cells #[.int .i64 ((rd_T112 l0 x7_1).f0),.int .i64 ((rd_T112 l0 x7_1).f1),.int .i64 ((rd_T112 l0 x7_1).f2),.bool ((rd_T112 l0 x7_1).f3)] 112 (0,0))):=⟨qq1⟩
          have n1_ : Aside0 (Below w.heap.size w ((((w6.setCell ⟨gb102,0,none⟩ (.int .i64 ((rd_T112 l0 x7_1).f0))).setCell ⟨gb102,1,none⟩ (.int .i64 ((rd_T112 l0 x7_1).f1))).setCell ⟨gb102,2,none⟩ (.int .i64 ((rd_T112 l0 x7_1).f2))).setCell ⟨gb102,3,none⟩ (.bool ((rd_T112 l0 x7_1).f3)))):=⟨qq186⟩
          (try clear BK102);(try clear HB)
          generalize ((((w6.setCell ⟨gb102,0,none⟩ (.int .i64 ((rd_T112 l0 x7_1).f0))).setCell ⟨gb102,1,none⟩ (.int .i64 ((rd_T112 l0 x7_1).f1))).setCell ⟨gb102,2,none⟩ (.int .i64 ((rd_T112 l0 x7_1).f2))).setCell ⟨gb102,3,none⟩ (.bool ((rd_T112 l0 x7_1).f3))) = w29 at n0_ n1_ ⊢
          have BK102:=n0_;have HB:=n1_;clear n0_ n1_;replace BK102:=am qq518;replace HB:=am qq519;refine start_ (n:=31) (S:=fun w' => w'.cell? ⟨gb102,0,none⟩ = some (.int .i64 ((rd_T112 l0 x7_1).f0)) ∧ w'.cell? ⟨gb102,1,none⟩ = some (.int .i64 ((rd_T112 l0 x7_1).f1)) ∧ w'.cell? ⟨gb102,2,none⟩ = some (.int .i64 ((rd_T112 l0 x7_1).f2)) ∧ w'.cell? ⟨gb102,3,none⟩ = some (.bool ((rd_T112 l0 x7_1).f3))) (ds:=[]) m0_2 (by kernel_rfl) rfl rfl ⟨(blk_cell BK102.out 0).trans rfl,(blk_cell BK102.out 1).trans rfl,(blk_cell BK102.out 2).trans rfl,(blk_cell BK102.out 3).trans rfl⟩ (fun hHeld => ?_);refine with_tabW impl_AreCrew.tab4 impl_AreCrew.bits4 (fun HT_ HW_ => ?_)
          generalize w29.drew = w30 at BK102 HB hHeld ⊢
          refine pV (i:=0) (N:=some 12) m1_2 rfl rfl qT ?_
          refine tV4 (i:=1) (N:=some 13) m2_2 rfl rfl (take_ofW HT_.out HW_.out (by kernel_rfl)) hHeld ?_
          refine one_ (i:=2) (N:=some 14) m3_2 rfl rfl (one_of HT_.out (by kernel_rfl)) (by decide) (fun K hK => ?_);refine goes_ Try.func76 (by kernel_rfl) rfl #[.int .i64 ((rd_T112 l0 x7_1).f0),.int .i64 1,.int .i64 99] (by rfl) rfl rfl qq187 ?_;with_reducible refine (impl_InRange.calls ((rd_T112 l0 x7_1).f0) 1 99 true _ A8.out).mono ?_
          rintro e w' ⟨rfl,⟨nd,rfl⟩⟩
          refine ⟨_,rfl,?_⟩;refine hK.out _ _ ⟨(blk_cell BK102.out 0).trans rfl,(blk_cell BK102.out 1).trans rfl,(blk_cell BK102.out 2).trans rfl,(blk_cell BK102.out 3).trans rfl⟩ (fun hHeld => ?_);clear hK K;refine norm_ (a':=?_) ?_ ?_;rotate_left
          ·show Act.put _ (some 14) _ = _
           simp only [Act.put,sA,s0,s1,i64_w,i32_w];rfl
          refine pV (i:=3) (N:=some 15) m4_2 rfl rfl qT ?_
          refine pV (i:=4) (N:=some 16) m5_2 rfl rfl qT ?_
          refine pV (i:=5) (N:=some 17) m6_2 rfl rfl qT ?_
          refine pV (i:=6) (N:=some 18) m7_2 rfl rfl qT ?_
          refine pV (i:=7) (N:=some 19) m8_2 rfl rfl qT ?_
          refine pW (i:=8) (N:=some 20) m9_2 rfl rfl qT ?_
          refine pW (i:=9) (N:=some 21) m32_2 rfl rfl qT ?_
          refine pW (i:=10) (N:=some 22) m33_2 rfl rfl qT ?_
          refine pW (i:=11) (N:=some 23) m34_2 rfl rfl qT ?_
          refine pW (i:=12) (N:=some 24) m35_2 rfl rfl qT ?_
          refine pW (i:=13) (N:=some 25) m36_2 rfl rfl qT ?_
          refine pW (i:=14) (N:=some 26) m15_2 rfl rfl qT ?_
          refine pW (i:=15) (N:=some 27) m16_2 rfl rfl qT ?_
          refine pW (i:=16) (N:=some 28) m17_2 rfl rfl qT ?_
          refine pV (i:=17) (N:=some 29) m18_2 rfl rfl qT ?_
          refine pV (i:=18) (N:=some 30) m19_2 rfl rfl qT ?_
          refine pV (i:=19) (N:=some 31) m20_2 rfl rfl qT ?_
          refine pV (i:=20) (N:=some 32) m21_2 rfl rfl qT ?_
          refine tV4 (i:=21) (N:=some 33) m22_2 rfl rfl (take_ofW HT_.out HW_.out (by kernel_rfl)) hHeld ?_
          refine one_ (i:=22) (N:=some 34) m23_2 rfl rfl (one_of HT_.out (by kernel_rfl)) (by decide) (fun K hK => ?_);refine goes_ Try.func76 (by kernel_rfl) rfl #[.int .i64 ((rd_T112 l0 x7_1).f1),.int .i64 0,.int .i64 100] (by rfl) rfl rfl qq187 ?_;with_reducible refine (impl_InRange.calls ((rd_T112 l0 x7_1).f1) 0 100 false _ A24.out).mono ?_
          rintro e w' ⟨rfl,⟨nd,rfl⟩⟩
          refine ⟨_,rfl,?_⟩;refine hK.out _ _ ⟨(blk_cell BK102.out 0).trans rfl,(blk_cell BK102.out 1).trans rfl,(blk_cell BK102.out 2).trans rfl,(blk_cell BK102.out 3).trans rfl⟩ (fun hHeld => ?_);clear hK K;refine norm_ (a':=?_) ?_ ?_;rotate_left
          ·show Act.put _ (some 34) _ = _
           simp only [Act.put,sA,s0,s1,i64_w,i32_w];rfl
          refine pV (i:=23) (N:=some 35) m24_2 rfl rfl qT ?_
          refine pV (i:=24) (N:=some 36) m25_2 rfl rfl qT ?_
          refine pV (i:=25) (N:=some 37) m26_2 rfl rfl qT ?_
          refine pW (i:=26) (N:=some 38) m27_2 rfl rfl qT ?_
          refine pW (i:=27) (N:=some 39) m28_2 rfl rfl qT ?_
          refine pW (i:=28) (N:=some 40) m29_2 rfl rfl qT ?_
          refine pW (i:=29) (N:=some 41) m30_2 rfl rfl qT ?_
          refine pV (i:=30) (N:=some 42) m31_2 rfl rfl qT ?_
          refine done_ (done_of HT_.out (by kernel_rfl)) ?_
          try go_wp2
          go_meet
          case rel => exact ⟨_,(true),qq311,H',⟨qq308⟩,⟨qq261⟩,⟨qq186⟩⟩
       ·replace c9:=Bool.eq_false_iff.mpr c9;subst c9;have H1 : (impl_AreCrew.j1 k1 l0 l0 (l0.length : Int) x7_1 true) = some r:=by rw [if_neg (show ¬ (false = true) by decide)] at H;exact H
        clear H;have H:=H1;clear H1;have H':=am H;clear H
        try go_wp2
        have n0_ : Aside0 (((((w6.setCell ⟨gb102,0,none⟩ (.int .i64 ((rd_T112 l0 x7_1).f0))).setCell ⟨gb102,1,none⟩ (.int .i64 ((rd_T112 l0 x7_1).f1))).setCell ⟨gb102,2,none⟩ (.int .i64 ((rd_T112 l0 x7_1).f2))).setCell ⟨gb102,3,none⟩ (.bool ((rd_T112 l0 x7_1).f3))).heap[gb102]? = some (.cells #[.int .i64 ((rd_T112 l0 x7_1).f0),.int .i64 ((rd_T112 l0 x7_1).f1),.int .i64 ((rd_T112 l0 x7_1).f2),.bool ((rd_T112 l0 x7_1).f3)] 112 (0,0))):=⟨qq1⟩
        have n1_ : Aside0 (Below w.heap.size w ((((w6.setCell ⟨gb102,0,none⟩ (.int .i64 ((rd_T112 l0 x7_1).f0))).setCell ⟨gb102,1,none⟩ (.int .i64 ((rd_T112 l0 x7_1).f1))).setCell ⟨gb102,2,none⟩ (.int .i64 ((rd_T112 l0 x7_1).f2))).setCell ⟨gb102,3,none⟩ (.bool ((rd_T112 l0 x7_1).f3)))):=⟨qq186⟩
        (try clear BK102);(try clear HB)
        generalize ((((w6.setCell ⟨gb102,0,none⟩ (.int .i64 ((rd_T112 l0 x7_1).f0))).setCell ⟨gb102,1,none⟩ (.int .i64 ((rd_T112 l0 x7_1).f1))).setCell ⟨gb102,2,none⟩ (.int .i64 ((rd_T112 l0 x7_1).f2))).setCell ⟨gb102,3,none⟩ (.bool ((rd_T112 l0 x7_1).f3))) = w31 at n0_ n1_ ⊢
        have BK102:=n0_;have HB:=n1_;clear n0_ n1_;replace BK102:=am qq518;replace HB:=am qq519;refine start_ (n:=31) (S:=fun w' => w'.cell? ⟨gb102,0,none⟩ = some (.int .i64 ((rd_T112 l0 x7_1).f0)) ∧ w'.cell? ⟨gb102,1,none⟩ = some (.int .i64 ((rd_T112 l0 x7_1).f1)) ∧ w'.cell? ⟨gb102,2,none⟩ = some (.int .i64 ((rd_T112 l0 x7_1).f2)) ∧ w'.cell? ⟨gb102,3,none⟩ = some (.bool ((rd_T112 l0 x7_1).f3))) (ds:=[]) m0_2 (by kernel_rfl) rfl rfl ⟨(blk_cell BK102.out 0).trans rfl,(blk_cell BK102.out 1).trans rfl,(blk_cell BK102.out 2).trans rfl,(blk_cell BK102.out 3).trans rfl⟩ (fun hHeld => ?_);refine with_tabW impl_AreCrew.tab4 impl_AreCrew.bits4 (fun HT_ HW_ => ?_)
        generalize w31.drew = w32 at BK102 HB hHeld ⊢
        refine pV (i:=0) (N:=some 12) m1_2 rfl rfl qT ?_
        refine tV4 (i:=1) (N:=some 13) m2_2 rfl rfl (take_ofW HT_.out HW_.out (by kernel_rfl)) hHeld ?_
        refine one_ (i:=2) (N:=some 14) m3_2 rfl rfl (one_of HT_.out (by kernel_rfl)) (by decide) (fun K hK => ?_);refine goes_ Try.func76 (by kernel_rfl) rfl #[.int .i64 ((rd_T112 l0 x7_1).f0),.int .i64 1,.int .i64 99] (by rfl) rfl rfl qq187 ?_;with_reducible refine (impl_InRange.calls ((rd_T112 l0 x7_1).f0) 1 99 false _ A8.out).mono ?_
        rintro e w' ⟨rfl,⟨nd,rfl⟩⟩
        refine ⟨_,rfl,?_⟩;refine hK.out _ _ ⟨(blk_cell BK102.out 0).trans rfl,(blk_cell BK102.out 1).trans rfl,(blk_cell BK102.out 2).trans rfl,(blk_cell BK102.out 3).trans rfl⟩ (fun hHeld => ?_);clear hK K;refine norm_ (a':=?_) ?_ ?_;rotate_left
        ·show Act.put _ (some 14) _ = _
         simp only [Act.put,sA,s0,s1,i64_w,i32_w];rfl
        refine pV (i:=3) (N:=some 15) m4_2 rfl rfl qT ?_
        refine pV (i:=4) (N:=some 16) m5_2 rfl rfl qT ?_
        refine pW (i:=5) (N:=some 17) m6_2 rfl rfl qT ?_
        refine pW (i:=6) (N:=some 18) m7_2 rfl rfl qT ?_
        refine pW (i:=7) (N:=some 19) m8_2 rfl rfl qT ?_
        refine pW (i:=8) (N:=some 20) m9_2 rfl rfl qT ?_
        refine pW (i:=9) (N:=some 21) m32_2 rfl rfl qT ?_
        refine pW (i:=10) (N:=some 22) m33_2 rfl rfl qT ?_
        refine pW (i:=11) (N:=some 23) m34_2 rfl rfl qT ?_
        refine pW (i:=12) (N:=some 24) m35_2 rfl rfl qT ?_
        refine pW (i:=13) (N:=some 25) m36_2 rfl rfl qT ?_
        refine pW (i:=14) (N:=some 26) m15_2 rfl rfl qT ?_
        refine pW (i:=15) (N:=some 27) m16_2 rfl rfl qT ?_
        refine pW (i:=16) (N:=some 28) m17_2 rfl rfl qT ?_
        refine pW (i:=17) (N:=some 29) m18_2 rfl rfl qT ?_
        refine pV (i:=18) (N:=some 30) m19_2 rfl rfl qT ?_
        refine pV (i:=19) (N:=some 31) m20_2 rfl rfl qT ?_
        refine pW (i:=20) (N:=some 32) m21_2 rfl rfl qT ?_
        refine pW (i:=21) (N:=some 33) m22_2 rfl rfl qT ?_
        refine pW (i:=22) (N:=some 34) m23_2 rfl rfl qT ?_
        refine pW (i:=23) (N:=some 35) m24_2 rfl rfl qT ?_
        refine pV (i:=24) (N:=some 36) m25_2 rfl rfl qT ?_
        refine pV (i:=25) (N:=some 37) m26_2 rfl rfl qT ?_
        refine pW (i:=26) (N:=some 38) m27_2 rfl rfl qT ?_
        refine pW (i:=27) (N:=some 39) m28_2 rfl rfl qT ?_
        refine pW (i:=28) (N:=some 40) m29_2 rfl rfl qT ?_
        refine pW (i:=29) (N:=some 41) m30_2 rfl rfl qT ?_
        refine pV (i:=30) (N:=some 42) m31_2 rfl rfl qT ?_
        refine done_ (done_of HT_.out (by kernel_rfl)) ?_
        try go_wp2
        go_meet
        case rel => exact ⟨_,(true),qq311,H',⟨qq308⟩,⟨qq261⟩,⟨qq186⟩⟩
      case rest =>
       clear HC5
       try clear c2
       try clear p2
       try clear c7
       try clear c9
       try clear c25
       obtain ⟨kq,x42_4,rfl,HA,HJ4,BK102,HB⟩:=hcut
       cases kq with
       | zero => exact absurd HA.out (by simp [impl_AreCrew.j1])
       | succ kj4 =>
        have H:=HA.out;clear HA;simp only [impl_AreCrew.j1] at H
        by_cases c33 : x42_4 = true
        ·subst c33;rw [if_pos rfl] at H;obtain rfl:=Option.some.inj H;go_wp2
         go_ret
         exact ⟨qq263,qq186⟩
        ·replace c33:=Bool.eq_false_iff.mpr c33;subst c33;have H1 : (impl_AreCrew.l0 kj4 l0 l0 (l0.length : Int) (wrap64 (x7_1 + 1))) = some r:=by rw [if_neg (show ¬ (false = true) by decide)] at H;exact H
         clear H;have H:=H1;clear H1;have H':=am H;clear H;go_wp2
         go_roundg kj4
         case measure => have:=HK1.out;have:=HJ4.out;omega
         case rel => exact ⟨(wrap64 (x7_1 + 1)),qq311,H',⟨by have:=HK1.out;have:=HJ4.out;omega⟩,⟨qq186⟩⟩
     ·rw [if_neg c4] at H;exact absurd H (by simp)
    ·rw [if_neg c3] at H;exact absurd H (by simp)
   ·rw [if_neg c2] at H;have c2b0 : decide (x7_1 < (l0.length : Int)) = false:=decide_eq_false c2;clear c2;replace H:=bS.mp H;obtain ⟨t109,A340,H⟩:=H;(try dsimp only at H);have A34:=am A340;clear A340;obtain rfl:=Option.some.inj H;go_wp2_with (first | ((with_reducible refine gate_callee (f:=76) rfl ?_);refine goesL_ (some 46) rfl rfl Try.func76 (by kernel_rfl) rfl #[.int .i64 (l0.length : Int),.int .i64 1,.int .i64 8] rfl qq187 ?_;(with_reducible refine (impl_InRange.calls (l0.length : Int) 1 8 t109 _ A34.out).mono ?_);rintro e w' ⟨rfl,⟨nd,rfl⟩⟩;refine ⟨_,rfl,?_⟩))
    go_ret
    exact ⟨qq263,qq208⟩

end Go.Proofs.Ytcbkknpmeknppaa.PFnExactPlanFood
