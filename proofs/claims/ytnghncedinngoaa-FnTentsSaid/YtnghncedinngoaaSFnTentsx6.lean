/- Contracts of functions that the law FnTents reaches, for its row: lines that the kit's printer wrote for this claim, set shorter by a program of this session (own.py), and what fell in Lean proved anew. Lean checks them. -/
import Derived.Test.YtnghncedinngoaaSFnTentsx0
import Derived.Test.YtnghncedinngoaaSFnTentsx1
namespace Go.Proofs.Ytnghncedinngoaa.PFnTents
open Go.RowKit Go.Proofs.YtnghncedinngoaaW.PrintWords Go.Proofs.YtnghncedinngoaaW.PrintLast Go.Proofs.YtnghncedinngoaaW.PrintMore
attribute [local go_sem] max2_int min2_int max_two min_two max_three min_three max_four min_four   -- for this text's walks alone
set_option linter.unusedVariables false
set_option linter.unusedSimpArgs false

abbrev m0_6 : Array Bool := #[Z,Z,Z,Z,Z,Z,Z,Z,Z,Z,Z,Z,Z,Z,Z,Z,Z,Z,Z,Z,Z,Z,Z,Z,Z,Z,Z,Z,Z,Z,Z]
abbrev m1_6 : Array Bool := #[Y,Z,Z,Z,Z,Z,Z,Z,Z,Z,Z,Z,Z,Z,Z,Z,Z,Z,Z,Z,Z,Z,Z,Z,Z,Z,Z,Z,Z,Z,Z]
abbrev m2_6 : Array Bool := #[Y,Y,Z,Z,Z,Z,Z,Z,Z,Z,Z,Z,Z,Z,Z,Z,Z,Z,Z,Z,Z,Z,Z,Z,Z,Z,Z,Z,Z,Z,Z]
abbrev m3_6 : Array Bool := #[Y,Y,Y,Z,Z,Z,Z,Z,Z,Z,Z,Z,Z,Z,Z,Z,Z,Z,Z,Z,Z,Z,Z,Z,Z,Z,Z,Z,Z,Z,Z]
abbrev m4_6 : Array Bool := #[Y,Y,Y,Y,Z,Z,Z,Z,Z,Z,Z,Z,Z,Z,Z,Z,Z,Z,Z,Z,Z,Z,Z,Z,Z,Z,Z,Z,Z,Z,Z]
abbrev m5_6 : Array Bool := #[Y,Y,Y,Y,Y,Z,Z,Z,Z,Z,Z,Z,Z,Z,Z,Z,Z,Z,Z,Z,Z,Z,Z,Z,Z,Z,Z,Z,Z,Z,Z]
abbrev m6_6 : Array Bool := #[Y,Y,Y,Y,Y,Y,Z,Z,Z,Z,Z,Z,Z,Z,Z,Z,Z,Z,Z,Z,Z,Z,Z,Z,Z,Z,Z,Z,Z,Z,Z]
abbrev m7_6 : Array Bool := #[Y,Y,Y,Y,Y,Y,Y,Z,Z,Z,Z,Z,Z,Z,Z,Z,Z,Z,Z,Z,Z,Z,Z,Z,Z,Z,Z,Z,Z,Z,Z]
abbrev m8_6 : Array Bool := #[Y,Y,Y,Y,Y,Y,Y,Y,Z,Z,Z,Z,Z,Z,Z,Z,Z,Z,Z,Z,Z,Z,Z,Z,Z,Z,Z,Z,Z,Z,Z]
abbrev m9_6 : Array Bool := #[Y,Y,Y,Y,Y,Y,Y,Y,Y,Z,Z,Z,Z,Z,Z,Z,Z,Z,Z,Z,Z,Z,Z,Z,Z,Z,Z,Z,Z,Z,Z]
abbrev m10_6 : Array Bool := #[Y,Y,Y,Y,Y,Y,Y,Y,Y,Z,Y,Z,Z,Z,Z,Z,Z,Z,Z,Z,Z,Z,Z,Z,Z,Z,Z,Z,Z,Z,Z]
abbrev m11_6 : Array Bool := #[Y,Y,Y,Y,Y,Y,Y,Y,Y,Z,Y,Y,Z,Z,Z,Z,Z,Z,Z,Z,Z,Z,Z,Z,Z,Z,Z,Z,Z,Z,Z]
abbrev m12_6 : Array Bool := #[Y,Y,Y,Y,Y,Y,Y,Y,Y,Z,Y,Y,Y,Z,Z,Z,Z,Z,Z,Z,Z,Z,Z,Z,Z,Z,Z,Z,Z,Z,Z]
abbrev m13_6 : Array Bool := #[Y,Y,Y,Y,Y,Y,Y,Y,Y,Z,Y,Y,Y,Y,Z,Z,Z,Z,Z,Z,Z,Z,Z,Z,Z,Z,Z,Z,Z,Z,Z]
abbrev m14_6 : Array Bool := #[Y,Y,Y,Y,Y,Y,Y,Y,Y,Z,Y,Y,Y,Y,Y,Z,Z,Z,Z,Z,Z,Z,Z,Z,Z,Z,Z,Z,Z,Z,Z]
abbrev m15_6 : Array Bool := #[Y,Y,Y,Y,Y,Y,Y,Y,Y,Y,Y,Y,Y,Y,Y,Z,Z,Z,Z,Z,Z,Z,Z,Z,Z,Z,Z,Z,Z,Z,Z]
abbrev m16_6 : Array Bool := #[Y,Y,Y,Y,Y,Y,Y,Y,Y,Y,Y,Y,Y,Y,Y,Y,Z,Z,Z,Z,Z,Z,Z,Z,Z,Z,Z,Z,Z,Z,Z]
abbrev m17_6 : Array Bool := #[Y,Y,Y,Y,Y,Y,Y,Y,Y,Y,Y,Y,Y,Y,Y,Y,Y,Z,Z,Z,Z,Z,Z,Z,Z,Z,Z,Z,Z,Z,Z]
abbrev m18_6 : Array Bool := #[Y,Y,Y,Y,Y,Y,Y,Y,Y,Y,Y,Y,Y,Y,Y,Y,Y,Y,Z,Z,Z,Z,Z,Z,Z,Z,Z,Z,Z,Z,Z]
abbrev m19_6 : Array Bool := #[Y,Y,Y,Y,Y,Y,Y,Y,Y,Y,Y,Y,Y,Y,Y,Y,Y,Y,Y,Z,Z,Z,Z,Z,Z,Z,Z,Z,Z,Z,Z]
abbrev m20_6 : Array Bool := #[Y,Y,Y,Y,Y,Y,Y,Y,Y,Y,Y,Y,Y,Y,Y,Y,Y,Y,Y,Y,Z,Z,Z,Z,Z,Z,Z,Z,Z,Z,Z]
abbrev m21_6 : Array Bool := #[Y,Y,Y,Y,Y,Y,Y,Y,Y,Y,Y,Y,Y,Y,Y,Y,Y,Y,Y,Y,Y,Z,Z,Z,Z,Z,Z,Z,Z,Z,Z]
abbrev m22_6 : Array Bool := #[Y,Y,Y,Y,Y,Y,Y,Y,Y,Y,Y,Y,Y,Y,Y,Y,Y,Y,Y,Y,Y,Y,Z,Z,Z,Z,Z,Z,Z,Z,Z]
abbrev m23_6 : Array Bool := #[Y,Y,Y,Y,Y,Y,Y,Y,Y,Y,Y,Y,Y,Y,Y,Y,Y,Y,Y,Y,Y,Y,Y,Z,Z,Z,Z,Z,Z,Z,Z]
abbrev m24_6 : Array Bool := #[Y,Y,Y,Y,Y,Y,Y,Y,Y,Y,Y,Y,Y,Y,Y,Y,Y,Y,Y,Y,Y,Y,Y,Y,Z,Z,Z,Z,Z,Z,Z]
abbrev m25_6 : Array Bool := #[Y,Y,Y,Y,Y,Y,Y,Y,Y,Y,Y,Y,Y,Y,Y,Y,Y,Y,Y,Y,Y,Y,Y,Y,Y,Z,Z,Z,Z,Z,Z]
abbrev m26_6 : Array Bool := #[Y,Y,Y,Y,Y,Y,Y,Y,Y,Y,Y,Y,Y,Y,Y,Y,Y,Y,Y,Y,Y,Y,Y,Y,Y,Y,Z,Z,Z,Z,Z]
abbrev m27_6 : Array Bool := #[Y,Y,Y,Y,Y,Y,Y,Y,Y,Y,Y,Y,Y,Y,Y,Y,Y,Y,Y,Y,Y,Y,Y,Y,Y,Y,Y,Z,Z,Z,Z]
abbrev m28_6 : Array Bool := #[Y,Y,Y,Y,Y,Y,Y,Y,Y,Y,Y,Y,Y,Y,Y,Y,Y,Y,Y,Y,Y,Y,Y,Y,Y,Y,Y,Y,Z,Z,Z]
abbrev m29_6 : Array Bool := #[Y,Y,Y,Y,Y,Y,Y,Y,Y,Y,Y,Y,Y,Y,Y,Y,Y,Y,Y,Y,Y,Y,Y,Y,Y,Y,Y,Y,Y,Z,Z]
abbrev m30_6 : Array Bool := #[Y,Y,Y,Y,Y,Y,Y,Y,Y,Y,Y,Y,Y,Y,Y,Y,Y,Y,Y,Y,Y,Y,Y,Y,Y,Y,Y,Y,Y,Y,Z]
abbrev m31_6 : Array Bool := #[Y,Y,Y,Y,Y,Y,Y,Y,Y,Y,Y,Y,Y,Y,Y,Y,Y,Y,Y,Y,Y,Y,Y,Y,Y,Y,Y,Y,Y,Y,Y]
abbrev m32_6 : Array Bool := #[Y,Y,Y,Y,Y,Y,Y,Y,Y,Y,Z,Z,Z,Z,Z,Z,Z,Z,Z,Z,Z,Z,Z,Z,Z,Z,Z,Z,Z,Z,Z]
abbrev m33_6 : Array Bool := #[Y,Y,Y,Y,Y,Y,Y,Y,Y,Y,Y,Z,Z,Z,Z,Z,Z,Z,Z,Z,Z,Z,Z,Z,Z,Z,Z,Z,Z,Z,Z]
abbrev m34_6 : Array Bool := #[Y,Y,Y,Y,Y,Y,Y,Y,Y,Y,Y,Y,Z,Z,Z,Z,Z,Z,Z,Z,Z,Z,Z,Z,Z,Z,Z,Z,Z,Z,Z]
abbrev m35_6 : Array Bool := #[Y,Y,Y,Y,Y,Y,Y,Y,Y,Y,Y,Y,Y,Z,Z,Z,Z,Z,Z,Z,Z,Z,Z,Z,Z,Z,Z,Z,Z,Z,Z]
abbrev m36_6 : Array Bool := #[Y,Y,Y,Y,Y,Y,Y,Y,Y,Y,Y,Y,Y,Y,Z,Z,Z,Z,Z,Z,Z,Z,Z,Z,Z,Z,Z,Z,Z,Z,Z]
/-! ### impl_AreCrew: function 37 -/
def impl_AreCrew.l0 : Nat → List (S49) → List (S49) → Int → Int → Option (Bool)
 | 0,_,_,_,_ => none
 | k + 1,x0,x5,x6,x7 => if x7 < x6 then (if 0 ≤ x7 then (if x7 < (x5.length : Int) then ((impl_InRange.f ((rd_T49 x5 x7).f0) 1 99).bind fun t176 => (if t176 = true then (if x7 > 0 then (if 0 ≤ (wrap64 (x7 - 1)) then (if (wrap64 (x7 - 1)) < (x0.length : Int) then (if ((rd_T49 x5 x7).f0) ≤ ((rd_T49 x0 (wrap64 (x7 - 1))).f0) then (some false) else ((impl_InRange.f ((rd_T49 x5 x7).f1) 0 100).bind fun t178 => (if t178 = true then ((impl_InRange.f ((rd_T49 x5 x7).f2) 1 10).bind fun t179 => (if t179 = true then (impl_AreCrew.l0 k x0 x5 x6 (wrap64 (x7 + 1))) else (some false))) else (some false)))) else (none)) else (none)) else ((impl_InRange.f ((rd_T49 x5 x7).f1) 0 100).bind fun t180 => (if t180 = true then ((impl_InRange.f ((rd_T49 x5 x7).f2) 1 10).bind fun t181 => (if t181 = true then (impl_AreCrew.l0 k x0 x5 x6 (wrap64 (x7 + 1))) else (some false))) else (some false)))) else (some false))) else (none)) else (none)) else ((impl_InRange.f (x0.length : Int) 1 8).bind fun t173 => (some t173))
def impl_AreCrew.f (k : Nat) (l0 : List (S49)) : Option (Bool) := impl_AreCrew.l0 k l0 l0 (l0.length : Int) 0
theorem impl_AreCrew.mono_l : ∀ k, (∀ y0 y1 y2 y3, LeO (impl_AreCrew.l0 k y0 y1 y2 y3) (impl_AreCrew.l0 (k + 1) y0 y1 y2 y3))
 | 0 => fun _ _ _ _ r h => by simp [impl_AreCrew.l0] at h
 | k + 1 => by
  have ih0:=impl_AreCrew.mono_l k
  ·intro y0 y1 y2 y3
   unfold impl_AreCrew.l0
   repeat' first
   | (with_reducible exact ih0 _ _ _ _)
   | (with_reducible exact LeO.refl _)
   | (with_reducible exact LeO.none _)
   | (with_reducible refine LeO.ite ?_ ?_)
   | (with_reducible refine LeO.bind ?_ (fun _ => ?_))
   | exact ih0 _ _ _ _
   | exact LeO.none _
   | refine LeO.ite ?_ ?_
   | refine LeO.bind ?_ (fun _ => ?_)
theorem impl_AreCrew.mono : ∀ a0 k, LeO (impl_AreCrew.f k a0) (impl_AreCrew.f (k + 1) a0) := by
 intro a0 k
 have ih0:=impl_AreCrew.mono_l k
 unfold impl_AreCrew.f
 repeat' first
   | (with_reducible exact ih0 _ _ _ _)
   | (with_reducible exact LeO.refl _)
   | (with_reducible exact LeO.none _)
   | (with_reducible refine LeO.ite ?_ ?_)
   | (with_reducible refine LeO.bind ?_ (fun _ => ?_))
   | exact ih0 _ _ _ _
   | exact LeO.none _
   | refine LeO.ite ?_ ?_
   | refine LeO.bind ?_ (fun _ => ?_)
def impl_AreCrew.T4 : Bool × List (List Nat × List Nat) := (true, [([], []), ([0], [0]), ([1], [1]), ([2], [2]), ([3, 2], [3]), ([4], [4]), ([5, 4], [4, 5]), ([6, 4, 4], [4, 6]), ([7], [7]), ([8, 7], [7, 8]), ([7], [7]), ([7], [7]), ([11, 7], [7, 11]), ([10, 12, 7], [7, 10, 12]), ([13, 7], [7, 13]), ([14, 7], [7, 14]), ([9, 15, 7], [7, 9, 15]), ([7, 16, 4], [4, 7, 16]), ([4, 17], [4, 17]), ([18, 7], [18]), ([19], [19]), ([20, 19], [19, 20]), ([21, 19, 19], [19, 21]), ([22, 19], [19, 22]), ([19, 23], [19, 23]), ([24, 22], [24]), ([25], [25]), ([26, 25], [25, 26]), ([27, 25, 25], [25, 27]), ([28, 25], [25, 28]), ([25, 29], [25, 29])])
def impl_AreCrew.B4 : List Nat := [0, 1, 3, 7, 15, 31, 63, 127, 255, 511, 255, 255, 2303, 7423, 15615, 31999, 65535, 131071, 262143, 524287, 1048575, 2097151, 4194303, 8388607, 16777215, 33554431, 67108863, 134217727, 268435455, 536870911, 1073741823]
theorem impl_AreCrew.tab4 : rtab .any (opsOf Try.f37 4) = impl_AreCrew.T4 := by kernel_rfl
theorem impl_AreCrew.bits4 : waitsOk impl_AreCrew.T4.2 impl_AreCrew.B4 = true := by kernel_rfl
set_option maxHeartbeats 8000000 in
set_option maxRecDepth 100000 in
theorem impl_AreCrew.calls (k : Nat) (A0 : Option Addr) (c0 : Nat) (l0 : List (S49)) (r : Bool) (w : World) (hr0 : Kd.C k49 w A0 l0.length l0) (hc0 : l0.length ≤ c0) (h : impl_AreCrew.f k l0 = some r) :
  Calls Try.prog 37 #[.slice A0 l0.length c0] w fun e w' => e = .returned (.bool r) ∧ Below w.heap.size w w':=by
 have hu49:=Try.underlying49;have HR0:=am hr0;have HC0:=am hc0;clear hr0 hc0;have HB:=am qq135;have H : (impl_AreCrew.l0 k l0 l0 (l0.length : Int) 0) = some r:=h;clear h;have H':=am H;clear H
 go_enter Try.func37,Try.ntmps37
 go_wp2
 go_loopg [7] k (fun kq v7 w' => ∃ (x7_1 : Int),v7 = .int .i64 x7_1 ∧ Aside0 (impl_AreCrew.l0 kq l0 l0 (l0.length : Int) x7_1 = some r) ∧ Aside0 (kq ≤ k) ∧ Aside0 (Below w.heap.size w w'))
 case atStart => exact ⟨(0),qq95,H',⟨Nat.le_refl _⟩,⟨qq73⟩⟩
 case round =>
  clear H';obtain ⟨x7_1,rfl,HA,HK1,HB⟩:=hrel
  cases gk with
  | zero => exact absurd HA.out (by simp [impl_AreCrew.l0])
  | succ k1 =>
   have H:=HA.out;clear HA;simp only [impl_AreCrew.l0] at H
   by_cases c2 : x7_1 < (l0.length : Int)
   ·rw [if_pos c2] at H;have c2b0 : decide (x7_1 < (l0.length : Int)) = true:=decide_eq_true c2;clear c2
    by_cases c3 : 0 ≤ x7_1
    ·rw [if_pos c3] at H;have c3b0 : decide (0 ≤ x7_1) = true:=decide_eq_true c3;clear c3
     by_cases c4 : x7_1 < (l0.length : Int)
     ·rw [if_pos c4] at H;have c4b0 : decide (x7_1 < (l0.length : Int)) = true:=decide_eq_true c4;clear c4;replace H:=bS.mp H;obtain ⟨t176,A50,H⟩:=H;replace H : (if t176 = true then (if x7_1 > 0 then (if 0 ≤ (wrap64 (x7_1 - 1)) then (if (wrap64 (x7_1 - 1)) < (l0.length : Int) then (if ((rd_T49 l0 x7_1).f0) ≤ ((rd_T49 l0 (wrap64 (x7_1 - 1))).f0) then (some false) else ((impl_InRange.f ((rd_T49 l0 x7_1).f1) 0 100).bind fun t178 => (if t178 = true then ((impl_InRange.f ((rd_T49 l0 x7_1).f2) 1 10).bind fun t179 => (if t179 = true then (impl_AreCrew.l0 k1 l0 l0 (l0.length : Int) (wrap64 (x7_1 + 1))) else (some false))) else (some false)))) else (none)) else (none)) else ((impl_InRange.f ((rd_T49 l0 x7_1).f1) 0 100).bind fun t180 => (if t180 = true then ((impl_InRange.f ((rd_T49 l0 x7_1).f2) 1 10).bind fun t181 => (if t181 = true then (impl_AreCrew.l0 k1 l0 l0 (l0.length : Int) (wrap64 (x7_1 + 1))) else (some false))) else (some false)))) else (some false)) = some r:=H;have A5:=am A50;clear A50
      by_cases c6 : t176 = true
      ·subst c6;have H1 : (if x7_1 > 0 then (if 0 ≤ (wrap64 (x7_1 - 1)) then (if (wrap64 (x7_1 - 1)) < (l0.length : Int) then (if ((rd_T49 l0 x7_1).f0) ≤ ((rd_T49 l0 (wrap64 (x7_1 - 1))).f0) then (some false) else ((impl_InRange.f ((rd_T49 l0 x7_1).f1) 0 100).bind fun t178 => (if t178 = true then ((impl_InRange.f ((rd_T49 l0 x7_1).f2) 1 10).bind fun t179 => (if t179 = true then (impl_AreCrew.l0 k1 l0 l0 (l0.length : Int) (wrap64 (x7_1 + 1))) else (some false))) else (some false)))) else (none)) else (none)) else ((impl_InRange.f ((rd_T49 l0 x7_1).f1) 0 100).bind fun t180 => (if t180 = true then ((impl_InRange.f ((rd_T49 l0 x7_1).f2) 1 10).bind fun t181 => (if t181 = true then (impl_AreCrew.l0 k1 l0 l0 (l0.length : Int) (wrap64 (x7_1 + 1))) else (some false))) else (some false)))) = some r:=by rw [if_pos rfl] at H;exact H
       clear H;have H:=H1;clear H1
       by_cases c7 : x7_1 > 0
       ·rw [if_pos c7] at H;have c7b0 : decide (0 < x7_1) = true:=decide_eq_true c7;clear c7;obtain ⟨ji8,hji8⟩ : ∃ j_ : Int,(wrap64 (x7_1 - 1)) = j_:=⟨_,rfl⟩
        replace H : (if 0 ≤ (ji8) then (if (ji8) < (l0.length : Int) then (if ((rd_T49 l0 x7_1).f0) ≤ ((rd_T49 l0 (ji8)).f0) then (some false) else ((impl_InRange.f ((rd_T49 l0 x7_1).f1) 0 100).bind fun t178 => (if t178 = true then ((impl_InRange.f ((rd_T49 l0 x7_1).f2) 1 10).bind fun t179 => (if t179 = true then (impl_AreCrew.l0 k1 l0 l0 (l0.length : Int) (wrap64 (x7_1 + 1))) else (some false))) else (some false)))) else (none)) else (none)) = some r:=by first | (rw [hji8] at H;exact H) | (simp only [hji8] at H ⊢;exact H)
        (try rw [hji8] at A5);have hji8w : (IntKind.i64.wrap (x7_1 - 1)) = ji8:=(i64_w _).trans hji8
        by_cases c9 : 0 ≤ (ji8)
        ·rw [if_pos c9] at H;have c9b0 : decide (0 ≤ (ji8)) = true:=decide_eq_true c9;clear c9
         by_cases c10 : (ji8) < (l0.length : Int)
         ·rw [if_pos c10] at H;have c10b0 : decide ((ji8) < (l0.length : Int)) = true:=decide_eq_true c10;clear c10
          by_cases c11 : ((rd_T49 l0 x7_1).f0) ≤ ((rd_T49 l0 (ji8)).f0)
          ·rw [if_pos c11] at H;have c11b0 : decide (((rd_T49 l0 x7_1).f0) ≤ ((rd_T49 l0 (ji8)).f0)) = true:=decide_eq_true c11;clear c11;obtain rfl:=Option.some.inj H;have p174 : 0 ≤ (x7_1 : Int):=odt qq94;have q174 : x7_1 < (l0.length : Int):=odt qq94;obtain ⟨ad174,e174,hx174_0,hx174_1,hx174_2,hx174_3⟩:=at_T49 HR0.out x7_1 p174 q174
           cases e174
           replace hx174_0:=(ct HB.out hx174_0 :)
           replace hx174_1:=(ct HB.out hx174_1 :)
           replace hx174_2:=(ct HB.out hx174_2 :)
           replace hx174_3:=(ct HB.out hx174_3 :)
           replace p174:=eq_true p174;replace q174:=eq_true q174
           try go_wp2_with (first | ((with_reducible refine gate_dst (N:=4) rfl ?_);refine box_event ?hg (N:=4) ?hd (cs:=#[.int .i64 0,.int .i64 0,.int .i64 0,.bool false]) (t:=49) ?hr ?_;(case hd => rfl);(case hg => rfl);(case hr => exact qq96);intro gb175 hg w12 hbox hb;have BK175:=am (hbox);have GW175:=am qq134;have GE175:=am qq134;replace HB:=am qq138;clear hb hbox hg;obtain ⟨hcz13_0,hcz13_1,hcz13_2,hcz13_3,hfz13_0,hfz13_1,hfz13_2,hfz13_3⟩:=bcl4 BK175.out))
           have n0_ : Aside0 (((((w12.setCell ⟨gb175,0,none⟩ (.int .i64 ((rd_T49 l0 x7_1).f0))).setCell ⟨gb175,1,none⟩ (.int .i64 ((rd_T49 l0 x7_1).f1))).setCell ⟨gb175,2,none⟩ (.int .i64 ((rd_T49 l0 x7_1).f2))).setCell ⟨gb175,3,none⟩ (.bool ((rd_T49 l0 x7_1).f3))).heap[gb175]? = some (.cells #[.int .i64 ((rd_T49 l0 x7_1).f0),.int .i64 ((rd_T49 l0 x7_1).f1),.int .i64 ((rd_T49 l0 x7_1).f2),.bool ((rd_T49 l0 x7_1).f3)] 49 (0,0))):=⟨qq1⟩
           have n1_ : Aside0 (Below w.heap.size w ((((w12.setCell ⟨gb175,0,none⟩ (.int .i64 ((rd_T49 l0 x7_1).f0))).setCell ⟨gb175,1,none⟩ (.int .i64 ((rd_T49 l0 x7_1).f1))).setCell ⟨gb175,2,none⟩ (.int .i64 ((rd_T49 l0 x7_1).f2))).setCell ⟨gb175,3,none⟩ (.bool ((rd_T49 l0 x7_1).f3)))):=⟨qq46⟩
           (try clear BK175);(try clear HB)
           generalize ((((w12.setCell ⟨gb175,0,none⟩ (.int .i64 ((rd_T49 l0 x7_1).f0))).setCell ⟨gb175,1,none⟩ (.int .i64 ((rd_T49 l0 x7_1).f1))).setCell ⟨gb175,2,none⟩ (.int .i64 ((rd_T49 l0 x7_1).f2))).setCell ⟨gb175,3,none⟩ (.bool ((rd_T49 l0 x7_1).f3))) = w14 at n0_ n1_ ⊢
           have BK175:=n0_;have HB:=n1_;clear n0_ n1_;replace BK175:=am qq142;replace HB:=am qq141;have p177 : 0 ≤ ((ji8) : Int):=odt qq94;have q177 : (ji8) < (l0.length : Int):=odt qq94;obtain ⟨ad177,e177,hx177_0,hx177_1,hx177_2,hx177_3⟩:=at_T49 HR0.out (ji8) p177 q177;have hw177_3:=hx177_3;have hw177_2:=hx177_2;have hw177_1:=hx177_1;have hw177_0:=hx177_0;obtain rfl : ad174 = ad177:=(by injection e177)
           replace hx177_0:=(ct HB.out hx177_0 :)
           replace hx177_1:=(ct HB.out hx177_1 :)
           replace hx177_2:=(ct HB.out hx177_2 :)
           replace hx177_3:=(ct HB.out hx177_3 :)
           replace p177:=eq_true p177;replace q177:=eq_true q177;refine start_ (n:=31) (S:=fun w' => w'.cell? ⟨gb175,0,none⟩ = some (.int .i64 ((rd_T49 l0 x7_1).f0)) ∧ w'.cell? ⟨gb175,1,none⟩ = some (.int .i64 ((rd_T49 l0 x7_1).f1)) ∧ w'.cell? ⟨gb175,2,none⟩ = some (.int .i64 ((rd_T49 l0 x7_1).f2)) ∧ w'.cell? ⟨gb175,3,none⟩ = some (.bool ((rd_T49 l0 x7_1).f3)) ∧ w'.cell? (ad174.add (((ji8)).toNat * 4)) = some (.int .i64 ((rd_T49 l0 (ji8)).f0)) ∧ w'.cell? ⟨(ad174.add (((ji8)).toNat * 4)).block,(ad174.add (((ji8)).toNat * 4)).off + 1,none⟩ = some (.int .i64 ((rd_T49 l0 (ji8)).f1)) ∧ w'.cell? ⟨(ad174.add (((ji8)).toNat * 4)).block,(ad174.add (((ji8)).toNat * 4)).off + 2,none⟩ = some (.int .i64 ((rd_T49 l0 (ji8)).f2)) ∧ w'.cell? ⟨(ad174.add (((ji8)).toNat * 4)).block,(ad174.add (((ji8)).toNat * 4)).off + 3,none⟩ = some (.bool ((rd_T49 l0 (ji8)).f3))) (ds:=[]) m0_6 (by kernel_rfl) rfl rfl ⟨(blk_cell BK175.out 0).trans rfl,(blk_cell BK175.out 1).trans rfl,(blk_cell BK175.out 2).trans rfl,(blk_cell BK175.out 3).trans rfl,(ct HB.out hw177_0 :),(ct HB.out hw177_1 :),(ct HB.out hw177_2 :),(ct HB.out hw177_3 :)⟩ (fun hHeld => ?_);refine with_tabW impl_AreCrew.tab4 impl_AreCrew.bits4 (fun HT_ HW_ => ?_)
           generalize w14.drew = w15 at BK175 HB hx177_0 hx177_1 hx177_2 hx177_3 hHeld ⊢
           refine pV (i:=0) (N:=some 12) m1_6 rfl rfl qT ?_
           refine tV8 (i:=1) (N:=some 13) m2_6 rfl rfl (take_ofW HT_.out HW_.out (by kernel_rfl)) hHeld ?_
           refine one_ (i:=2) (N:=some 14) m3_6 rfl rfl (one_of HT_.out (by kernel_rfl)) (by decide) (fun K hK => ?_);refine goes_ Try.func41 (by kernel_rfl) rfl #[.int .i64 ((rd_T49 l0 x7_1).f0),.int .i64 1,.int .i64 99] (by rfl) rfl rfl qq50 ?_;with_reducible refine (impl_InRange.calls ((rd_T49 l0 x7_1).f0) 1 99 true _ A5.out).mono ?_
           rintro e w' ⟨rfl,⟨nd,rfl⟩⟩
           refine ⟨_,rfl,?_⟩;refine hK.out _ _ ⟨(blk_cell BK175.out 0).trans rfl,(blk_cell BK175.out 1).trans rfl,(blk_cell BK175.out 2).trans rfl,(blk_cell BK175.out 3).trans rfl,(ct HB.out hw177_0 :),(ct HB.out hw177_1 :),(ct HB.out hw177_2 :),(ct HB.out hw177_3 :)⟩ (fun hHeld => ?_);clear hK K;refine norm_ (a':=?_) ?_ ?_;rotate_left
           ·show Act.put _ (some 14) _ = _
            simp only [Act.put,sA,s0,s1,i64_w,i32_w];rfl
           refine pV (i:=3) (N:=some 15) m4_6 rfl rfl qT ?_
           refine pV (i:=4) (N:=some 16) m5_6 rfl rfl qT ?_
           refine pV (i:=5) (N:=some 17) m6_6 rfl rfl qT ?_
           refine pV (i:=6) (N:=some 18) m7_6 rfl rfl qT ?_
           refine pV (i:=7) (N:=some 19) m8_6 rfl rfl qT ?_
           refine pV (i:=8) (N:=some 20) m9_6 rfl rfl qT ?_
           refine pV (i:=10) (N:=some 22) m10_6 rfl rfl qT ?_
           refine pV (i:=11) (N:=some 23) m11_6 rfl rfl qT ?_
           refine pV (i:=12) (N:=some 24) m12_6 rfl rfl qT ?_
           refine pV (i:=13) (N:=some 25) m13_6 rfl rfl qT ?_
           refine pV (i:=14) (N:=some 26) m14_6 rfl rfl qT ?_
           refine tV8 (i:=9) (N:=some 21) m15_6 rfl rfl (take_ofW HT_.out HW_.out (by kernel_rfl)) hHeld ?_
           refine tV8 (i:=15) (N:=some 27) m16_6 rfl rfl (take_ofW HT_.out HW_.out (by kernel_rfl)) hHeld ?_
           refine pV (i:=16) (N:=some 28) m17_6 rfl rfl qT ?_
           refine pV (i:=17) (N:=some 29) m18_6 rfl rfl qT ?_
           refine pV (i:=18) (N:=some 30) m19_6 rfl rfl qT ?_
           refine pV (i:=19) (N:=some 31) m20_6 rfl rfl qT ?_
           refine pW (i:=20) (N:=some 32) m21_6 rfl rfl qT ?_
           refine pW (i:=21) (N:=some 33) m22_6 rfl rfl qT ?_
           refine pW (i:=22) (N:=some 34) m23_6 rfl rfl qT ?_
           refine pW (i:=23) (N:=some 35) m24_6 rfl rfl qT ?_
           refine pV (i:=24) (N:=some 36) m25_6 rfl rfl qT ?_
           refine pV (i:=25) (N:=some 37) m26_6 rfl rfl qT ?_
           refine pW (i:=26) (N:=some 38) m27_6 rfl rfl qT ?_
           refine pW (i:=27) (N:=some 39) m28_6 rfl rfl qT ?_
           refine pW (i:=28) (N:=some 40) m29_6 rfl rfl qT ?_
           refine pW (i:=29) (N:=some 41) m30_6 rfl rfl qT ?_
           refine pV (i:=30) (N:=some 42) m31_6 rfl rfl qT ?_
           refine done_ (done_of HT_.out (by kernel_rfl)) ?_
           try go_wp2
           go_ret
           exact ⟨qq20,qq46⟩
          ·rw [if_neg c11] at H;have c11b0 : decide (((rd_T49 l0 x7_1).f0) ≤ ((rd_T49 l0 (ji8)).f0)) = false:=decide_eq_false c11;clear c11;replace H:=bS.mp H;obtain ⟨t178,A160,H⟩:=H;replace H : (if t178 = true then ((impl_InRange.f ((rd_T49 l0 x7_1).f2) 1 10).bind fun t179 => (if t179 = true then (impl_AreCrew.l0 k1 l0 l0 (l0.length : Int) (wrap64 (x7_1 + 1))) else (some false))) else (some false)) = some r:=H;have A16:=am A160;clear A160
           by_cases c17 : t178 = true
           ·subst c17;have H1 : ((impl_InRange.f ((rd_T49 l0 x7_1).f2) 1 10).bind fun t179 => (if t179 = true then (impl_AreCrew.l0 k1 l0 l0 (l0.length : Int) (wrap64 (x7_1 + 1))) else (some false))) = some r:=by rw [if_pos rfl] at H;exact H
            clear H;have H:=H1;clear H1;replace H:=bS.mp H;obtain ⟨t179,A180,H⟩:=H;replace H : (if t179 = true then (impl_AreCrew.l0 k1 l0 l0 (l0.length : Int) (wrap64 (x7_1 + 1))) else (some false)) = some r:=H;have A18:=am A180;clear A180
            by_cases c19 : t179 = true
            ·subst c19;have H1 : (impl_AreCrew.l0 k1 l0 l0 (l0.length : Int) (wrap64 (x7_1 + 1))) = some r:=by rw [if_pos rfl] at H;exact H
             clear H;have H:=H1;clear H1;have H':=am H;clear H;have p174 : 0 ≤ (x7_1 : Int):=odt qq94;have q174 : x7_1 < (l0.length : Int):=odt qq94;obtain ⟨ad174,e174,hx174_0,hx174_1,hx174_2,hx174_3⟩:=at_T49 HR0.out x7_1 p174 q174
             cases e174
             replace hx174_0:=(ct HB.out hx174_0 :)
             replace hx174_1:=(ct HB.out hx174_1 :)
             replace hx174_2:=(ct HB.out hx174_2 :)
             replace hx174_3:=(ct HB.out hx174_3 :)
             replace p174:=eq_true p174;replace q174:=eq_true q174
             try go_wp2_with (first | ((with_reducible refine gate_dst (N:=4) rfl ?_);refine box_event ?hg (N:=4) ?hd (cs:=#[.int .i64 0,.int .i64 0,.int .i64 0,.bool false]) (t:=49) ?hr ?_;(case hd => rfl);(case hg => rfl);(case hr => exact qq96);intro gb175 hg w20 hbox hb;have BK175:=am (hbox);have GW175:=am qq134;have GE175:=am qq134;replace HB:=am qq138;clear hb hbox hg;obtain ⟨hcz21_0,hcz21_1,hcz21_2,hcz21_3,hfz21_0,hfz21_1,hfz21_2,hfz21_3⟩:=bcl4 BK175.out))
             have n0_ : Aside0 (((((w20.setCell ⟨gb175,0,none⟩ (.int .i64 ((rd_T49 l0 x7_1).f0))).setCell ⟨gb175,1,none⟩ (.int .i64 ((rd_T49 l0 x7_1).f1))).setCell ⟨gb175,2,none⟩ (.int .i64 ((rd_T49 l0 x7_1).f2))).setCell ⟨gb175,3,none⟩ (.bool ((rd_T49 l0 x7_1).f3))).heap[gb175]? = some (.cells #[.int .i64 ((rd_T49 l0 x7_1).f0),.int .i64 ((rd_T49 l0 x7_1).f1),.int .i64 ((rd_T49 l0 x7_1).f2),.bool ((rd_T49 l0 x7_1).f3)] 49 (0,0))):=⟨qq1⟩
             have n1_ : Aside0 (Below w.heap.size w ((((w20.setCell ⟨gb175,0,none⟩ (.int .i64 ((rd_T49 l0 x7_1).f0))).setCell ⟨gb175,1,none⟩ (.int .i64 ((rd_T49 l0 x7_1).f1))).setCell ⟨gb175,2,none⟩ (.int .i64 ((rd_T49 l0 x7_1).f2))).setCell ⟨gb175,3,none⟩ (.bool ((rd_T49 l0 x7_1).f3)))):=⟨qq46⟩
             (try clear BK175);(try clear HB)
             generalize ((((w20.setCell ⟨gb175,0,none⟩ (.int .i64 ((rd_T49 l0 x7_1).f0))).setCell ⟨gb175,1,none⟩ (.int .i64 ((rd_T49 l0 x7_1).f1))).setCell ⟨gb175,2,none⟩ (.int .i64 ((rd_T49 l0 x7_1).f2))).setCell ⟨gb175,3,none⟩ (.bool ((rd_T49 l0 x7_1).f3))) = w22 at n0_ n1_ ⊢
             have BK175:=n0_;have HB:=n1_;clear n0_ n1_;replace BK175:=am qq142;replace HB:=am qq141;have p177 : 0 ≤ ((ji8) : Int):=odt qq94;have q177 : (ji8) < (l0.length : Int):=odt qq94;obtain ⟨ad177,e177,hx177_0,hx177_1,hx177_2,hx177_3⟩:=at_T49 HR0.out (ji8) p177 q177;have hw177_3:=hx177_3;have hw177_2:=hx177_2;have hw177_1:=hx177_1;have hw177_0:=hx177_0;obtain rfl : ad174 = ad177:=(by injection e177)
             replace hx177_0:=(ct HB.out hx177_0 :)
             replace hx177_1:=(ct HB.out hx177_1 :)
             replace hx177_2:=(ct HB.out hx177_2 :)
             replace hx177_3:=(ct HB.out hx177_3 :)
             replace p177:=eq_true p177;replace q177:=eq_true q177;refine start_ (n:=31) (S:=fun w' => w'.cell? ⟨gb175,0,none⟩ = some (.int .i64 ((rd_T49 l0 x7_1).f0)) ∧ w'.cell? ⟨gb175,1,none⟩ = some (.int .i64 ((rd_T49 l0 x7_1).f1)) ∧ w'.cell? ⟨gb175,2,none⟩ = some (.int .i64 ((rd_T49 l0 x7_1).f2)) ∧ w'.cell? ⟨gb175,3,none⟩ = some (.bool ((rd_T49 l0 x7_1).f3)) ∧ w'.cell? (ad174.add (((ji8)).toNat * 4)) = some (.int .i64 ((rd_T49 l0 (ji8)).f0)) ∧ w'.cell? ⟨(ad174.add (((ji8)).toNat * 4)).block,(ad174.add (((ji8)).toNat * 4)).off + 1,none⟩ = some (.int .i64 ((rd_T49 l0 (ji8)).f1)) ∧ w'.cell? ⟨(ad174.add (((ji8)).toNat * 4)).block,(ad174.add (((ji8)).toNat * 4)).off + 2,none⟩ = some (.int .i64 ((rd_T49 l0 (ji8)).f2)) ∧ w'.cell? ⟨(ad174.add (((ji8)).toNat * 4)).block,(ad174.add (((ji8)).toNat * 4)).off + 3,none⟩ = some (.bool ((rd_T49 l0 (ji8)).f3))) (ds:=[]) m0_6 (by kernel_rfl) rfl rfl ⟨(blk_cell BK175.out 0).trans rfl,(blk_cell BK175.out 1).trans rfl,(blk_cell BK175.out 2).trans rfl,(blk_cell BK175.out 3).trans rfl,(ct HB.out hw177_0 :),(ct HB.out hw177_1 :),(ct HB.out hw177_2 :),(ct HB.out hw177_3 :)⟩ (fun hHeld => ?_);refine with_tabW impl_AreCrew.tab4 impl_AreCrew.bits4 (fun HT_ HW_ => ?_)
             generalize w22.drew = w23 at BK175 HB hx177_0 hx177_1 hx177_2 hx177_3 hHeld ⊢
             refine pV (i:=0) (N:=some 12) m1_6 rfl rfl qT ?_
             refine tV8 (i:=1) (N:=some 13) m2_6 rfl rfl (take_ofW HT_.out HW_.out (by kernel_rfl)) hHeld ?_
             refine one_ (i:=2) (N:=some 14) m3_6 rfl rfl (one_of HT_.out (by kernel_rfl)) (by decide) (fun K hK => ?_);refine goes_ Try.func41 (by kernel_rfl) rfl #[.int .i64 ((rd_T49 l0 x7_1).f0),.int .i64 1,.int .i64 99] (by rfl) rfl rfl qq50 ?_;with_reducible refine (impl_InRange.calls ((rd_T49 l0 x7_1).f0) 1 99 true _ A5.out).mono ?_
             rintro e w' ⟨rfl,⟨nd,rfl⟩⟩
             refine ⟨_,rfl,?_⟩;refine hK.out _ _ ⟨(blk_cell BK175.out 0).trans rfl,(blk_cell BK175.out 1).trans rfl,(blk_cell BK175.out 2).trans rfl,(blk_cell BK175.out 3).trans rfl,(ct HB.out hw177_0 :),(ct HB.out hw177_1 :),(ct HB.out hw177_2 :),(ct HB.out hw177_3 :)⟩ (fun hHeld => ?_);clear hK K;refine norm_ (a':=?_) ?_ ?_;rotate_left
             ·show Act.put _ (some 14) _ = _
              simp only [Act.put,sA,s0,s1,i64_w,i32_w];rfl
             refine pV (i:=3) (N:=some 15) m4_6 rfl rfl qT ?_
             refine pV (i:=4) (N:=some 16) m5_6 rfl rfl qT ?_
             refine pV (i:=5) (N:=some 17) m6_6 rfl rfl qT ?_
             refine pV (i:=6) (N:=some 18) m7_6 rfl rfl qT ?_
             refine pV (i:=7) (N:=some 19) m8_6 rfl rfl qT ?_
             refine pV (i:=8) (N:=some 20) m9_6 rfl rfl qT ?_
             refine pV (i:=10) (N:=some 22) m10_6 rfl rfl qT ?_
             refine pV (i:=11) (N:=some 23) m11_6 rfl rfl qT ?_
             refine pV (i:=12) (N:=some 24) m12_6 rfl rfl qT ?_
             refine pV (i:=13) (N:=some 25) m13_6 rfl rfl qT ?_
             refine pV (i:=14) (N:=some 26) m14_6 rfl rfl qT ?_
             refine tV8 (i:=9) (N:=some 21) m15_6 rfl rfl (take_ofW HT_.out HW_.out (by kernel_rfl)) hHeld ?_
             refine tV8 (i:=15) (N:=some 27) m16_6 rfl rfl (take_ofW HT_.out HW_.out (by kernel_rfl)) hHeld ?_
             refine pV (i:=16) (N:=some 28) m17_6 rfl rfl qT ?_
             refine pV (i:=17) (N:=some 29) m18_6 rfl rfl qT ?_
             refine pV (i:=18) (N:=some 30) m19_6 rfl rfl qT ?_
             refine pV (i:=19) (N:=some 31) m20_6 rfl rfl qT ?_
             refine pV (i:=20) (N:=some 32) m21_6 rfl rfl qT ?_
             refine tV8 (i:=21) (N:=some 33) m22_6 rfl rfl (take_ofW HT_.out HW_.out (by kernel_rfl)) hHeld ?_
             refine one_ (i:=22) (N:=some 34) m23_6 rfl rfl (one_of HT_.out (by kernel_rfl)) (by decide) (fun K hK => ?_);refine goes_ Try.func41 (by kernel_rfl) rfl #[.int .i64 ((rd_T49 l0 x7_1).f1),.int .i64 0,.int .i64 100] (by rfl) rfl rfl qq50 ?_;with_reducible refine (impl_InRange.calls ((rd_T49 l0 x7_1).f1) 0 100 true _ A16.out).mono ?_
             rintro e w' ⟨rfl,⟨nd,rfl⟩⟩
             refine ⟨_,rfl,?_⟩;refine hK.out _ _ ⟨(blk_cell BK175.out 0).trans rfl,(blk_cell BK175.out 1).trans rfl,(blk_cell BK175.out 2).trans rfl,(blk_cell BK175.out 3).trans rfl,(ct HB.out hw177_0 :),(ct HB.out hw177_1 :),(ct HB.out hw177_2 :),(ct HB.out hw177_3 :)⟩ (fun hHeld => ?_);clear hK K;refine norm_ (a':=?_) ?_ ?_;rotate_left
             ·show Act.put _ (some 34) _ = _
              simp only [Act.put,sA,s0,s1,i64_w,i32_w];rfl
             refine pV (i:=23) (N:=some 35) m24_6 rfl rfl qT ?_
             refine pV (i:=24) (N:=some 36) m25_6 rfl rfl qT ?_
             refine pV (i:=25) (N:=some 37) m26_6 rfl rfl qT ?_
             refine pV (i:=26) (N:=some 38) m27_6 rfl rfl qT ?_
             refine tV8 (i:=27) (N:=some 39) m28_6 rfl rfl (take_ofW HT_.out HW_.out (by kernel_rfl)) hHeld ?_
             refine one_ (i:=28) (N:=some 40) m29_6 rfl rfl (one_of HT_.out (by kernel_rfl)) (by decide) (fun K hK => ?_);refine goes_ Try.func41 (by kernel_rfl) rfl #[.int .i64 ((rd_T49 l0 x7_1).f2),.int .i64 1,.int .i64 10] (by rfl) rfl rfl qq50 ?_;with_reducible refine (impl_InRange.calls ((rd_T49 l0 x7_1).f2) 1 10 true _ A18.out).mono ?_
             rintro e w' ⟨rfl,⟨nd,rfl⟩⟩
             refine ⟨_,rfl,?_⟩;refine hK.out _ _ ⟨(blk_cell BK175.out 0).trans rfl,(blk_cell BK175.out 1).trans rfl,(blk_cell BK175.out 2).trans rfl,(blk_cell BK175.out 3).trans rfl,(ct HB.out hw177_0 :),(ct HB.out hw177_1 :),(ct HB.out hw177_2 :),(ct HB.out hw177_3 :)⟩ (fun hHeld => ?_);clear hK K;refine norm_ (a':=?_) ?_ ?_;rotate_left
             ·show Act.put _ (some 40) _ = _
              simp only [Act.put,sA,s0,s1,i64_w,i32_w];rfl
             refine pV (i:=29) (N:=some 41) m30_6 rfl rfl qT ?_
             refine pV (i:=30) (N:=some 42) m31_6 rfl rfl qT ?_
             refine done_ (done_of HT_.out (by kernel_rfl)) ?_
             try go_wp2
             go_roundg k1
             case measure => have:=HK1.out;omega
             case rel => exact ⟨(wrap64 (x7_1 + 1)),qq95,H',⟨qq107⟩,⟨qq46⟩⟩
            ·replace c19:=Bool.eq_false_iff.mpr c19;subst c19;have H1 : (some false) = some r:=by rw [if_neg (show ¬ (false = true) by decide)] at H;exact H
             clear H;have H:=H1;clear H1;obtain rfl:=Option.some.inj H;have p174 : 0 ≤ (x7_1 : Int):=odt qq94;have q174 : x7_1 < (l0.length : Int):=odt qq94;obtain ⟨ad174,e174,hx174_0,hx174_1,hx174_2,hx174_3⟩:=at_T49 HR0.out x7_1 p174 q174
             cases e174
             replace hx174_0:=(ct HB.out hx174_0 :)
             replace hx174_1:=(ct HB.out hx174_1 :)
             replace hx174_2:=(ct HB.out hx174_2 :)
             replace hx174_3:=(ct HB.out hx174_3 :)
             replace p174:=eq_true p174;replace q174:=eq_true q174
             try go_wp2_with (first | ((with_reducible refine gate_dst (N:=4) rfl ?_);refine box_event ?hg (N:=4) ?hd (cs:=#[.int .i64 0,.int .i64 0,.int .i64 0,.bool false]) (t:=49) ?hr ?_;(case hd => rfl);(case hg => rfl);(case hr => exact qq96);intro gb175 hg w24 hbox hb;have BK175:=am (hbox);have GW175:=am qq134;have GE175:=am qq134;replace HB:=am qq138;clear hb hbox hg;obtain ⟨hcz25_0,hcz25_1,hcz25_2,hcz25_3,hfz25_0,hfz25_1,hfz25_2,hfz25_3⟩:=bcl4 BK175.out))
             have n0_ : Aside0 (((((w24.setCell ⟨gb175,0,none⟩ (.int .i64 ((rd_T49 l0 x7_1).f0))).setCell ⟨gb175,1,none⟩ (.int .i64 ((rd_T49 l0 x7_1).f1))).setCell ⟨gb175,2,none⟩ (.int .i64 ((rd_T49 l0 x7_1).f2))).setCell ⟨gb175,3,none⟩ (.bool ((rd_T49 l0 x7_1).f3))).heap[gb175]? = some (.cells #[.int .i64 ((rd_T49 l0 x7_1).f0),.int .i64 ((rd_T49 l0 x7_1).f1),.int .i64 ((rd_T49 l0 x7_1).f2),.bool ((rd_T49 l0 x7_1).f3)] 49 (0,0))):=⟨qq1⟩
             have n1_ : Aside0 (Below w.heap.size w ((((w24.setCell ⟨gb175,0,none⟩ (.int .i64 ((rd_T49 l0 x7_1).f0))).setCell ⟨gb175,1,none⟩ (.int .i64 ((rd_T49 l0 x7_1).f1))).setCell ⟨gb175,2,none⟩ (.int .i64 ((rd_T49 l0 x7_1).f2))).setCell ⟨gb175,3,none⟩ (.bool ((rd_T49 l0 x7_1).f3)))):=⟨qq46⟩
             (try clear BK175);(try clear HB)
             generalize ((((w24.setCell ⟨gb175,0,none⟩ (.int .i64 ((rd_T49 l0 x7_1).f0))).setCell ⟨gb175,1,none⟩ (.int .i64 ((rd_T49 l0 x7_1).f1))).setCell ⟨gb175,2,none⟩ (.int .i64 ((rd_T49 l0 x7_1).f2))).setCell ⟨gb175,3,none⟩ (.bool ((rd_T49 l0 x7_1).f3))) = w26 at n0_ n1_ ⊢
             have BK175:=n0_;have HB:=n1_;clear n0_ n1_;replace BK175:=am qq142;replace HB:=am qq141;have p177 : 0 ≤ ((ji8) : Int):=odt qq94;have q177 : (ji8) < (l0.length : Int):=odt qq94;obtain ⟨ad177,e177,hx177_0,hx177_1,hx177_2,hx177_3⟩:=at_T49 HR0.out (ji8) p177 q177;have hw177_3:=hx177_3;have hw177_2:=hx177_2;have hw177_1:=hx177_1;have hw177_0:=hx177_0;obtain rfl : ad174 = ad177:=(by injection e177)
             replace hx177_0:=(ct HB.out hx177_0 :)
             replace hx177_1:=(ct HB.out hx177_1 :)
             replace hx177_2:=(ct HB.out hx177_2 :)
             replace hx177_3:=(ct HB.out hx177_3 :)
             replace p177:=eq_true p177;replace q177:=eq_true q177;refine start_ (n:=31) (S:=fun w' => w'.cell? ⟨gb175,0,none⟩ = some (.int .i64 ((rd_T49 l0 x7_1).f0)) ∧ w'.cell? ⟨gb175,1,none⟩ = some (.int .i64 ((rd_T49 l0 x7_1).f1)) ∧ w'.cell? ⟨gb175,2,none⟩ = some (.int .i64 ((rd_T49 l0 x7_1).f2)) ∧ w'.cell? ⟨gb175,3,none⟩ = some (.bool ((rd_T49 l0 x7_1).f3)) ∧ w'.cell? (ad174.add (((ji8)).toNat * 4)) = some (.int .i64 ((rd_T49 l0 (ji8)).f0)) ∧ w'.cell? ⟨(ad174.add (((ji8)).toNat * 4)).block,(ad174.add (((ji8)).toNat * 4)).off + 1,none⟩ = some (.int .i64 ((rd_T49 l0 (ji8)).f1)) ∧ w'.cell? ⟨(ad174.add (((ji8)).toNat * 4)).block,(ad174.add (((ji8)).toNat * 4)).off + 2,none⟩ = some (.int .i64 ((rd_T49 l0 (ji8)).f2)) ∧ w'.cell? ⟨(ad174.add (((ji8)).toNat * 4)).block,(ad174.add (((ji8)).toNat * 4)).off + 3,none⟩ = some (.bool ((rd_T49 l0 (ji8)).f3))) (ds:=[]) m0_6 (by kernel_rfl) rfl rfl ⟨(blk_cell BK175.out 0).trans rfl,(blk_cell BK175.out 1).trans rfl,(blk_cell BK175.out 2).trans rfl,(blk_cell BK175.out 3).trans rfl,(ct HB.out hw177_0 :),(ct HB.out hw177_1 :),(ct HB.out hw177_2 :),(ct HB.out hw177_3 :)⟩ (fun hHeld => ?_);refine with_tabW impl_AreCrew.tab4 impl_AreCrew.bits4 (fun HT_ HW_ => ?_)
             generalize w26.drew = w27 at BK175 HB hx177_0 hx177_1 hx177_2 hx177_3 hHeld ⊢
             refine pV (i:=0) (N:=some 12) m1_6 rfl rfl qT ?_
             refine tV8 (i:=1) (N:=some 13) m2_6 rfl rfl (take_ofW HT_.out HW_.out (by kernel_rfl)) hHeld ?_
             refine one_ (i:=2) (N:=some 14) m3_6 rfl rfl (one_of HT_.out (by kernel_rfl)) (by decide) (fun K hK => ?_);refine goes_ Try.func41 (by kernel_rfl) rfl #[.int .i64 ((rd_T49 l0 x7_1).f0),.int .i64 1,.int .i64 99] (by rfl) rfl rfl qq50 ?_;with_reducible refine (impl_InRange.calls ((rd_T49 l0 x7_1).f0) 1 99 true _ A5.out).mono ?_
             rintro e w' ⟨rfl,⟨nd,rfl⟩⟩
             refine ⟨_,rfl,?_⟩;refine hK.out _ _ ⟨(blk_cell BK175.out 0).trans rfl,(blk_cell BK175.out 1).trans rfl,(blk_cell BK175.out 2).trans rfl,(blk_cell BK175.out 3).trans rfl,(ct HB.out hw177_0 :),(ct HB.out hw177_1 :),(ct HB.out hw177_2 :),(ct HB.out hw177_3 :)⟩ (fun hHeld => ?_);clear hK K;refine norm_ (a':=?_) ?_ ?_;rotate_left
             ·show Act.put _ (some 14) _ = _
              simp only [Act.put,sA,s0,s1,i64_w,i32_w];rfl
             refine pV (i:=3) (N:=some 15) m4_6 rfl rfl qT ?_
             refine pV (i:=4) (N:=some 16) m5_6 rfl rfl qT ?_
             refine pV (i:=5) (N:=some 17) m6_6 rfl rfl qT ?_
             refine pV (i:=6) (N:=some 18) m7_6 rfl rfl qT ?_
             refine pV (i:=7) (N:=some 19) m8_6 rfl rfl qT ?_
             refine pV (i:=8) (N:=some 20) m9_6 rfl rfl qT ?_
             refine pV (i:=10) (N:=some 22) m10_6 rfl rfl qT ?_
             refine pV (i:=11) (N:=some 23) m11_6 rfl rfl qT ?_
             refine pV (i:=12) (N:=some 24) m12_6 rfl rfl qT ?_
             refine pV (i:=13) (N:=some 25) m13_6 rfl rfl qT ?_
             refine pV (i:=14) (N:=some 26) m14_6 rfl rfl qT ?_
             refine tV8 (i:=9) (N:=some 21) m15_6 rfl rfl (take_ofW HT_.out HW_.out (by kernel_rfl)) hHeld ?_
             refine tV8 (i:=15) (N:=some 27) m16_6 rfl rfl (take_ofW HT_.out HW_.out (by kernel_rfl)) hHeld ?_
             refine pV (i:=16) (N:=some 28) m17_6 rfl rfl qT ?_
             refine pV (i:=17) (N:=some 29) m18_6 rfl rfl qT ?_
             refine pV (i:=18) (N:=some 30) m19_6 rfl rfl qT ?_
             refine pV (i:=19) (N:=some 31) m20_6 rfl rfl qT ?_
             refine pV (i:=20) (N:=some 32) m21_6 rfl rfl qT ?_
             refine tV8 (i:=21) (N:=some 33) m22_6 rfl rfl (take_ofW HT_.out HW_.out (by kernel_rfl)) hHeld ?_
             refine one_ (i:=22) (N:=some 34) m23_6 rfl rfl (one_of HT_.out (by kernel_rfl)) (by decide) (fun K hK => ?_);refine goes_ Try.func41 (by kernel_rfl) rfl #[.int .i64 ((rd_T49 l0 x7_1).f1),.int .i64 0,.int .i64 100] (by rfl) rfl rfl qq50 ?_;with_reducible refine (impl_InRange.calls ((rd_T49 l0 x7_1).f1) 0 100 true _ A16.out).mono ?_
             rintro e w' ⟨rfl,⟨nd,rfl⟩⟩
             refine ⟨_,rfl,?_⟩;refine hK.out _ _ ⟨(blk_cell BK175.out 0).trans rfl,(blk_cell BK175.out 1).trans rfl,(blk_cell BK175.out 2).trans rfl,(blk_cell BK175.out 3).trans rfl,(ct HB.out hw177_0 :),(ct HB.out hw177_1 :),(ct HB.out hw177_2 :),(ct HB.out hw177_3 :)⟩ (fun hHeld => ?_);clear hK K;refine norm_ (a':=?_) ?_ ?_;rotate_left
             ·show Act.put _ (some 34) _ = _
              simp only [Act.put,sA,s0,s1,i64_w,i32_w];rfl
             refine pV (i:=23) (N:=some 35) m24_6 rfl rfl qT ?_
             refine pV (i:=24) (N:=some 36) m25_6 rfl rfl qT ?_
             refine pV (i:=25) (N:=some 37) m26_6 rfl rfl qT ?_
             refine pV (i:=26) (N:=some 38) m27_6 rfl rfl qT ?_
             refine tV8 (i:=27) (N:=some 39) m28_6 rfl rfl (take_ofW HT_.out HW_.out (by kernel_rfl)) hHeld ?_
             refine one_ (i:=28) (N:=some 40) m29_6 rfl rfl (one_of HT_.out (by kernel_rfl)) (by decide) (fun K hK => ?_);refine goes_ Try.func41 (by kernel_rfl) rfl #[.int .i64 ((rd_T49 l0 x7_1).f2),.int .i64 1,.int .i64 10] (by rfl) rfl rfl qq50 ?_;with_reducible refine (impl_InRange.calls ((rd_T49 l0 x7_1).f2) 1 10 false _ A18.out).mono ?_
             rintro e w' ⟨rfl,⟨nd,rfl⟩⟩
             refine ⟨_,rfl,?_⟩;refine hK.out _ _ ⟨(blk_cell BK175.out 0).trans rfl,(blk_cell BK175.out 1).trans rfl,(blk_cell BK175.out 2).trans rfl,(blk_cell BK175.out 3).trans rfl,(ct HB.out hw177_0 :),(ct HB.out hw177_1 :),(ct HB.out hw177_2 :),(ct HB.out hw177_3 :)⟩ (fun hHeld => ?_);clear hK K;refine norm_ (a':=?_) ?_ ?_;rotate_left
             ·show Act.put _ (some 40) _ = _
              simp only [Act.put,sA,s0,s1,i64_w,i32_w];rfl
             refine pV (i:=29) (N:=some 41) m30_6 rfl rfl qT ?_
             refine pV (i:=30) (N:=some 42) m31_6 rfl rfl qT ?_
             refine done_ (done_of HT_.out (by kernel_rfl)) ?_
             try go_wp2
             go_ret
             exact ⟨qq20,qq46⟩
           ·replace c17:=Bool.eq_false_iff.mpr c17;subst c17;have H1 : (some false) = some r:=by rw [if_neg (show ¬ (false = true) by decide)] at H;exact H
            clear H;have H:=H1;clear H1;obtain rfl:=Option.some.inj H;have p174 : 0 ≤ (x7_1 : Int):=odt qq94;have q174 : x7_1 < (l0.length : Int):=odt qq94;obtain ⟨ad174,e174,hx174_0,hx174_1,hx174_2,hx174_3⟩:=at_T49 HR0.out x7_1 p174 q174
            cases e174
            replace hx174_0:=(ct HB.out hx174_0 :)
            replace hx174_1:=(ct HB.out hx174_1 :)
            replace hx174_2:=(ct HB.out hx174_2 :)
            replace hx174_3:=(ct HB.out hx174_3 :)
            replace p174:=eq_true p174;replace q174:=eq_true q174
            try go_wp2_with (first | ((with_reducible refine gate_dst (N:=4) rfl ?_);refine box_event ?hg (N:=4) ?hd (cs:=#[.int .i64 0,.int .i64 0,.int .i64 0,.bool false]) (t:=49) ?hr ?_;(case hd => rfl);(case hg => rfl);(case hr => exact qq96);intro gb175 hg w28 hbox hb;have BK175:=am (hbox);have GW175:=am qq134;have GE175:=am qq134;replace HB:=am qq138;clear hb hbox hg;obtain ⟨hcz29_0,hcz29_1,hcz29_2,hcz29_3,hfz29_0,hfz29_1,hfz29_2,hfz29_3⟩:=bcl4 BK175.out))
            have n0_ : Aside0 (((((w28.setCell ⟨gb175,0,none⟩ (.int .i64 ((rd_T49 l0 x7_1).f0))).setCell ⟨gb175,1,none⟩ (.int .i64 ((rd_T49 l0 x7_1).f1))).setCell ⟨gb175,2,none⟩ (.int .i64 ((rd_T49 l0 x7_1).f2))).setCell ⟨gb175,3,none⟩ (.bool ((rd_T49 l0 x7_1).f3))).heap[gb175]? = some (.cells #[.int .i64 ((rd_T49 l0 x7_1).f0),.int .i64 ((rd_T49 l0 x7_1).f1),.int .i64 ((rd_T49 l0 x7_1).f2),.bool ((rd_T49 l0 x7_1).f3)] 49 (0,0))):=⟨qq1⟩
            have n1_ : Aside0 (Below w.heap.size w ((((w28.setCell ⟨gb175,0,none⟩ (.int .i64 ((rd_T49 l0 x7_1).f0))).setCell ⟨gb175,1,none⟩ (.int .i64 ((rd_T49 l0 x7_1).f1))).setCell ⟨gb175,2,none⟩ (.int .i64 ((rd_T49 l0 x7_1).f2))).setCell ⟨gb175,3,none⟩ (.bool ((rd_T49 l0 x7_1).f3)))):=⟨qq46⟩
            (try clear BK175);(try clear HB)
            generalize ((((w28.setCell ⟨gb175,0,none⟩ (.int .i64 ((rd_T49 l0 x7_1).f0))).setCell ⟨gb175,1,none⟩ (.int .i64 ((rd_T49 l0 x7_1).f1))).setCell ⟨gb175,2,none⟩ (.int .i64 ((rd_T49 l0 x7_1).f2))).setCell ⟨gb175,3,none⟩ (.bool ((rd_T49 l0 x7_1).f3))) = w30 at n0_ n1_ ⊢
            have BK175:=n0_;have HB:=n1_;clear n0_ n1_;replace BK175:=am qq142;replace HB:=am qq141;have p177 : 0 ≤ ((ji8) : Int):=odt qq94;have q177 : (ji8) < (l0.length : Int):=odt qq94;obtain ⟨ad177,e177,hx177_0,hx177_1,hx177_2,hx177_3⟩:=at_T49 HR0.out (ji8) p177 q177;have hw177_3:=hx177_3;have hw177_2:=hx177_2;have hw177_1:=hx177_1;have hw177_0:=hx177_0;obtain rfl : ad174 = ad177:=(by injection e177)
            replace hx177_0:=(ct HB.out hx177_0 :)
            replace hx177_1:=(ct HB.out hx177_1 :)
            replace hx177_2:=(ct HB.out hx177_2 :)
            replace hx177_3:=(ct HB.out hx177_3 :)
            replace p177:=eq_true p177;replace q177:=eq_true q177;refine start_ (n:=31) (S:=fun w' => w'.cell? ⟨gb175,0,none⟩ = some (.int .i64 ((rd_T49 l0 x7_1).f0)) ∧ w'.cell? ⟨gb175,1,none⟩ = some (.int .i64 ((rd_T49 l0 x7_1).f1)) ∧ w'.cell? ⟨gb175,2,none⟩ = some (.int .i64 ((rd_T49 l0 x7_1).f2)) ∧ w'.cell? ⟨gb175,3,none⟩ = some (.bool ((rd_T49 l0 x7_1).f3)) ∧ w'.cell? (ad174.add (((ji8)).toNat * 4)) = some (.int .i64 ((rd_T49 l0 (ji8)).f0)) ∧ w'.cell? ⟨(ad174.add (((ji8)).toNat * 4)).block,(ad174.add (((ji8)).toNat * 4)).off + 1,none⟩ = some (.int .i64 ((rd_T49 l0 (ji8)).f1)) ∧ w'.cell? ⟨(ad174.add (((ji8)).toNat * 4)).block,(ad174.add (((ji8)).toNat * 4)).off + 2,none⟩ = some (.int .i64 ((rd_T49 l0 (ji8)).f2)) ∧ w'.cell? ⟨(ad174.add (((ji8)).toNat * 4)).block,(ad174.add (((ji8)).toNat * 4)).off + 3,none⟩ = some (.bool ((rd_T49 l0 (ji8)).f3))) (ds:=[]) m0_6 (by kernel_rfl) rfl rfl ⟨(blk_cell BK175.out 0).trans rfl,(blk_cell BK175.out 1).trans rfl,(blk_cell BK175.out 2).trans rfl,(blk_cell BK175.out 3).trans rfl,(ct HB.out hw177_0 :),(ct HB.out hw177_1 :),(ct HB.out hw177_2 :),(ct HB.out hw177_3 :)⟩ (fun hHeld => ?_);refine with_tabW impl_AreCrew.tab4 impl_AreCrew.bits4 (fun HT_ HW_ => ?_)
            generalize w30.drew = w31 at BK175 HB hx177_0 hx177_1 hx177_2 hx177_3 hHeld ⊢
            refine pV (i:=0) (N:=some 12) m1_6 rfl rfl qT ?_
            refine tV8 (i:=1) (N:=some 13) m2_6 rfl rfl (take_ofW HT_.out HW_.out (by kernel_rfl)) hHeld ?_
            refine one_ (i:=2) (N:=some 14) m3_6 rfl rfl (one_of HT_.out (by kernel_rfl)) (by decide) (fun K hK => ?_);refine goes_ Try.func41 (by kernel_rfl) rfl #[.int .i64 ((rd_T49 l0 x7_1).f0),.int .i64 1,.int .i64 99] (by rfl) rfl rfl qq50 ?_;with_reducible refine (impl_InRange.calls ((rd_T49 l0 x7_1).f0) 1 99 true _ A5.out).mono ?_
            rintro e w' ⟨rfl,⟨nd,rfl⟩⟩
            refine ⟨_,rfl,?_⟩;refine hK.out _ _ ⟨(blk_cell BK175.out 0).trans rfl,(blk_cell BK175.out 1).trans rfl,(blk_cell BK175.out 2).trans rfl,(blk_cell BK175.out 3).trans rfl,(ct HB.out hw177_0 :),(ct HB.out hw177_1 :),(ct HB.out hw177_2 :),(ct HB.out hw177_3 :)⟩ (fun hHeld => ?_);clear hK K;refine norm_ (a':=?_) ?_ ?_;rotate_left
            ·show Act.put _ (some 14) _ = _
             simp only [Act.put,sA,s0,s1,i64_w,i32_w];rfl
            refine pV (i:=3) (N:=some 15) m4_6 rfl rfl qT ?_
            refine pV (i:=4) (N:=some 16) m5_6 rfl rfl qT ?_
            refine pV (i:=5) (N:=some 17) m6_6 rfl rfl qT ?_
            refine pV (i:=6) (N:=some 18) m7_6 rfl rfl qT ?_
            refine pV (i:=7) (N:=some 19) m8_6 rfl rfl qT ?_
            refine pV (i:=8) (N:=some 20) m9_6 rfl rfl qT ?_
            refine pV (i:=10) (N:=some 22) m10_6 rfl rfl qT ?_
            refine pV (i:=11) (N:=some 23) m11_6 rfl rfl qT ?_
            refine pV (i:=12) (N:=some 24) m12_6 rfl rfl qT ?_
            refine pV (i:=13) (N:=some 25) m13_6 rfl rfl qT ?_
            refine pV (i:=14) (N:=some 26) m14_6 rfl rfl qT ?_
            refine tV8 (i:=9) (N:=some 21) m15_6 rfl rfl (take_ofW HT_.out HW_.out (by kernel_rfl)) hHeld ?_
            refine tV8 (i:=15) (N:=some 27) m16_6 rfl rfl (take_ofW HT_.out HW_.out (by kernel_rfl)) hHeld ?_
            refine pV (i:=16) (N:=some 28) m17_6 rfl rfl qT ?_
            refine pV (i:=17) (N:=some 29) m18_6 rfl rfl qT ?_
            refine pV (i:=18) (N:=some 30) m19_6 rfl rfl qT ?_
            refine pV (i:=19) (N:=some 31) m20_6 rfl rfl qT ?_
            refine pV (i:=20) (N:=some 32) m21_6 rfl rfl qT ?_
            refine tV8 (i:=21) (N:=some 33) m22_6 rfl rfl (take_ofW HT_.out HW_.out (by kernel_rfl)) hHeld ?_
            refine one_ (i:=22) (N:=some 34) m23_6 rfl rfl (one_of HT_.out (by kernel_rfl)) (by decide) (fun K hK => ?_);refine goes_ Try.func41 (by kernel_rfl) rfl #[.int .i64 ((rd_T49 l0 x7_1).f1),.int .i64 0,.int .i64 100] (by rfl) rfl rfl qq50 ?_;with_reducible refine (impl_InRange.calls ((rd_T49 l0 x7_1).f1) 0 100 false _ A16.out).mono ?_
            rintro e w' ⟨rfl,⟨nd,rfl⟩⟩
            refine ⟨_,rfl,?_⟩;refine hK.out _ _ ⟨(blk_cell BK175.out 0).trans rfl,(blk_cell BK175.out 1).trans rfl,(blk_cell BK175.out 2).trans rfl,(blk_cell BK175.out 3).trans rfl,(ct HB.out hw177_0 :),(ct HB.out hw177_1 :),(ct HB.out hw177_2 :),(ct HB.out hw177_3 :)⟩ (fun hHeld => ?_);clear hK K;refine norm_ (a':=?_) ?_ ?_;rotate_left
            ·show Act.put _ (some 34) _ = _
             simp only [Act.put,sA,s0,s1,i64_w,i32_w];rfl
            refine pV (i:=23) (N:=some 35) m24_6 rfl rfl qT ?_
            refine pV (i:=24) (N:=some 36) m25_6 rfl rfl qT ?_
            refine pV (i:=25) (N:=some 37) m26_6 rfl rfl qT ?_
            refine pW (i:=26) (N:=some 38) m27_6 rfl rfl qT ?_
            refine pW (i:=27) (N:=some 39) m28_6 rfl rfl qT ?_
            refine pW (i:=28) (N:=some 40) m29_6 rfl rfl qT ?_
            refine pW (i:=29) (N:=some 41) m30_6 rfl rfl qT ?_
            refine pV (i:=30) (N:=some 42) m31_6 rfl rfl qT ?_
            refine done_ (done_of HT_.out (by kernel_rfl)) ?_
            try go_wp2
            go_ret
            exact ⟨qq20,qq46⟩
         ·rw [if_neg c10] at H;exact absurd H (by simp)
        ·rw [if_neg c9] at H;exact absurd H (by simp)
       ·rw [if_neg c7] at H;have c7b0 : decide (0 < x7_1) = false:=decide_eq_false c7;clear c7;replace H:=bS.mp H;obtain ⟨t180,A320,H⟩:=H;replace H : (if t180 = true then ((impl_InRange.f ((rd_T49 l0 x7_1).f2) 1 10).bind fun t181 => (if t181 = true then (impl_AreCrew.l0 k1 l0 l0 (l0.length : Int) (wrap64 (x7_1 + 1))) else (some false))) else (some false)) = some r:=H;have A32:=am A320;clear A320
        by_cases c33 : t180 = true
        ·subst c33;have H1 : ((impl_InRange.f ((rd_T49 l0 x7_1).f2) 1 10).bind fun t181 => (if t181 = true then (impl_AreCrew.l0 k1 l0 l0 (l0.length : Int) (wrap64 (x7_1 + 1))) else (some false))) = some r:=by rw [if_pos rfl] at H;exact H
         clear H;have H:=H1;clear H1;replace H:=bS.mp H;obtain ⟨t181,A340,H⟩:=H;replace H : (if t181 = true then (impl_AreCrew.l0 k1 l0 l0 (l0.length : Int) (wrap64 (x7_1 + 1))) else (some false)) = some r:=H;have A34:=am A340;clear A340
         by_cases c35 : t181 = true
         ·subst c35;have H1 : (impl_AreCrew.l0 k1 l0 l0 (l0.length : Int) (wrap64 (x7_1 + 1))) = some r:=by rw [if_pos rfl] at H;exact H
          clear H;have H:=H1;clear H1;have H':=am H;clear H;have p174 : 0 ≤ (x7_1 : Int):=odt qq94;have q174 : x7_1 < (l0.length : Int):=odt qq94;obtain ⟨ad174,e174,hx174_0,hx174_1,hx174_2,hx174_3⟩:=at_T49 HR0.out x7_1 p174 q174
          cases e174
          replace hx174_0:=(ct HB.out hx174_0 :)
          replace hx174_1:=(ct HB.out hx174_1 :)
          replace hx174_2:=(ct HB.out hx174_2 :)
          replace hx174_3:=(ct HB.out hx174_3 :)
          replace p174:=eq_true p174;replace q174:=eq_true q174
          try go_wp2_with (first | ((with_reducible refine gate_dst (N:=4) rfl ?_);refine box_event ?hg (N:=4) ?hd (cs:=#[.int .i64 0,.int .i64 0,.int .i64 0,.bool false]) (t:=49) ?hr ?_;(case hd => rfl);(case hg => rfl);(case hr => exact qq96);intro gb175 hg w36 hbox hb;have BK175:=am (hbox);have GW175:=am qq134;have GE175:=am qq134;replace HB:=am qq138;clear hb hbox hg;obtain ⟨hcz37_0,hcz37_1,hcz37_2,hcz37_3,hfz37_0,hfz37_1,hfz37_2,hfz37_3⟩:=bcl4 BK175.out))
          have n0_ : Aside0 (((((w36.setCell ⟨gb175,0,none⟩ (.int .i64 ((rd_T49 l0 x7_1).f0))).setCell ⟨gb175,1,none⟩ (.int .i64 ((rd_T49 l0 x7_1).f1))).setCell ⟨gb175,2,none⟩ (.int .i64 ((rd_T49 l0 x7_1).f2))).setCell ⟨gb175,3,none⟩ (.bool ((rd_T49 l0 x7_1).f3))).heap[gb175]? = some (.cells #[.int .i64 ((rd_T49 l0 x7_1).f0),.int .i64 ((rd_T49 l0 x7_1).f1),.int .i64 ((rd_T49 l0 x7_1).f2),.bool ((rd_T49 l0 x7_1).f3)] 49 (0,0))):=⟨qq1⟩
          have n1_ : Aside0 (Below w.heap.size w ((((w36.setCell ⟨gb175,0,none⟩ (.int .i64 ((rd_T49 l0 x7_1).f0))).setCell ⟨gb175,1,none⟩ (.int .i64 ((rd_T49 l0 x7_1).f1))).setCell ⟨gb175,2,none⟩ (.int .i64 ((rd_T49 l0 x7_1).f2))).setCell ⟨gb175,3,none⟩ (.bool ((rd_T49 l0 x7_1).f3)))):=⟨qq46⟩
          (try clear BK175);(try clear HB)
          generalize ((((w36.setCell ⟨gb175,0,none⟩ (.int .i64 ((rd_T49 l0 x7_1).f0))).setCell ⟨gb175,1,none⟩ (.int .i64 ((rd_T49 l0 x7_1).f1))).setCell ⟨gb175,2,none⟩ (.int .i64 ((rd_T49 l0 x7_1).f2))).setCell ⟨gb175,3,none⟩ (.bool ((rd_T49 l0 x7_1).f3))) = w38 at n0_ n1_ ⊢
          have BK175:=n0_;have HB:=n1_;clear n0_ n1_;replace BK175:=am qq142;replace HB:=am qq141;refine start_ (n:=31) (S:=fun w' => w'.cell? ⟨gb175,0,none⟩ = some (.int .i64 ((rd_T49 l0 x7_1).f0)) ∧ w'.cell? ⟨gb175,1,none⟩ = some (.int .i64 ((rd_T49 l0 x7_1).f1)) ∧ w'.cell? ⟨gb175,2,none⟩ = some (.int .i64 ((rd_T49 l0 x7_1).f2)) ∧ w'.cell? ⟨gb175,3,none⟩ = some (.bool ((rd_T49 l0 x7_1).f3))) (ds:=[]) m0_6 (by kernel_rfl) rfl rfl ⟨(blk_cell BK175.out 0).trans rfl,(blk_cell BK175.out 1).trans rfl,(blk_cell BK175.out 2).trans rfl,(blk_cell BK175.out 3).trans rfl⟩ (fun hHeld => ?_);refine with_tabW impl_AreCrew.tab4 impl_AreCrew.bits4 (fun HT_ HW_ => ?_)
          generalize w38.drew = w39 at BK175 HB hHeld ⊢
          refine pV (i:=0) (N:=some 12) m1_6 rfl rfl qT ?_
          refine tV4 (i:=1) (N:=some 13) m2_6 rfl rfl (take_ofW HT_.out HW_.out (by kernel_rfl)) hHeld ?_
          refine one_ (i:=2) (N:=some 14) m3_6 rfl rfl (one_of HT_.out (by kernel_rfl)) (by decide) (fun K hK => ?_);refine goes_ Try.func41 (by kernel_rfl) rfl #[.int .i64 ((rd_T49 l0 x7_1).f0),.int .i64 1,.int .i64 99] (by rfl) rfl rfl qq50 ?_;with_reducible refine (impl_InRange.calls ((rd_T49 l0 x7_1).f0) 1 99 true _ A5.out).mono ?_
          rintro e w' ⟨rfl,⟨nd,rfl⟩⟩
          refine ⟨_,rfl,?_⟩;refine hK.out _ _ ⟨(blk_cell BK175.out 0).trans rfl,(blk_cell BK175.out 1).trans rfl,(blk_cell BK175.out 2).trans rfl,(blk_cell BK175.out 3).trans rfl⟩ (fun hHeld => ?_);clear hK K;refine norm_ (a':=?_) ?_ ?_;rotate_left
          ·show Act.put _ (some 14) _ = _
           simp only [Act.put,sA,s0,s1,i64_w,i32_w];rfl
          refine pV (i:=3) (N:=some 15) m4_6 rfl rfl qT ?_
          refine pV (i:=4) (N:=some 16) m5_6 rfl rfl qT ?_
          refine pV (i:=5) (N:=some 17) m6_6 rfl rfl qT ?_
          refine pV (i:=6) (N:=some 18) m7_6 rfl rfl qT ?_
          refine pV (i:=7) (N:=some 19) m8_6 rfl rfl qT ?_
          refine pW (i:=8) (N:=some 20) m9_6 rfl rfl qT ?_
          refine pW (i:=9) (N:=some 21) m32_6 rfl rfl qT ?_
          refine pW (i:=10) (N:=some 22) m33_6 rfl rfl qT ?_
          refine pW (i:=11) (N:=some 23) m34_6 rfl rfl qT ?_
          refine pW (i:=12) (N:=some 24) m35_6 rfl rfl qT ?_
          refine pW (i:=13) (N:=some 25) m36_6 rfl rfl qT ?_
          refine pW (i:=14) (N:=some 26) m15_6 rfl rfl qT ?_
          refine pW (i:=15) (N:=some 27) m16_6 rfl rfl qT ?_
          refine pW (i:=16) (N:=some 28) m17_6 rfl rfl qT ?_
          refine pV (i:=17) (N:=some 29) m18_6 rfl rfl qT ?_
          refine pV (i:=18) (N:=some 30) m19_6 rfl rfl qT ?_
          refine pV (i:=19) (N:=some 31) m20_6 rfl rfl qT ?_
          refine pV (i:=20) (N:=some 32) m21_6 rfl rfl qT ?_
          refine tV4 (i:=21) (N:=some 33) m22_6 rfl rfl (take_ofW HT_.out HW_.out (by kernel_rfl)) hHeld ?_
          refine one_ (i:=22) (N:=some 34) m23_6 rfl rfl (one_of HT_.out (by kernel_rfl)) (by decide) (fun K hK => ?_);refine goes_ Try.func41 (by kernel_rfl) rfl #[.int .i64 ((rd_T49 l0 x7_1).f1),.int .i64 0,.int .i64 100] (by rfl) rfl rfl qq50 ?_;with_reducible refine (impl_InRange.calls ((rd_T49 l0 x7_1).f1) 0 100 true _ A32.out).mono ?_
          rintro e w' ⟨rfl,⟨nd,rfl⟩⟩
          refine ⟨_,rfl,?_⟩;refine hK.out _ _ ⟨(blk_cell BK175.out 0).trans rfl,(blk_cell BK175.out 1).trans rfl,(blk_cell BK175.out 2).trans rfl,(blk_cell BK175.out 3).trans rfl⟩ (fun hHeld => ?_);clear hK K;refine norm_ (a':=?_) ?_ ?_;rotate_left
          ·show Act.put _ (some 34) _ = _
           simp only [Act.put,sA,s0,s1,i64_w,i32_w];rfl
          refine pV (i:=23) (N:=some 35) m24_6 rfl rfl qT ?_
          refine pV (i:=24) (N:=some 36) m25_6 rfl rfl qT ?_
          refine pV (i:=25) (N:=some 37) m26_6 rfl rfl qT ?_
          refine pV (i:=26) (N:=some 38) m27_6 rfl rfl qT ?_
          refine tV4 (i:=27) (N:=some 39) m28_6 rfl rfl (take_ofW HT_.out HW_.out (by kernel_rfl)) hHeld ?_
          refine one_ (i:=28) (N:=some 40) m29_6 rfl rfl (one_of HT_.out (by kernel_rfl)) (by decide) (fun K hK => ?_);refine goes_ Try.func41 (by kernel_rfl) rfl #[.int .i64 ((rd_T49 l0 x7_1).f2),.int .i64 1,.int .i64 10] (by rfl) rfl rfl qq50 ?_;with_reducible refine (impl_InRange.calls ((rd_T49 l0 x7_1).f2) 1 10 true _ A34.out).mono ?_
          rintro e w' ⟨rfl,⟨nd,rfl⟩⟩
          refine ⟨_,rfl,?_⟩;refine hK.out _ _ ⟨(blk_cell BK175.out 0).trans rfl,(blk_cell BK175.out 1).trans rfl,(blk_cell BK175.out 2).trans rfl,(blk_cell BK175.out 3).trans rfl⟩ (fun hHeld => ?_);clear hK K;refine norm_ (a':=?_) ?_ ?_;rotate_left
          ·show Act.put _ (some 40) _ = _
           simp only [Act.put,sA,s0,s1,i64_w,i32_w];rfl
          refine pV (i:=29) (N:=some 41) m30_6 rfl rfl qT ?_
          refine pV (i:=30) (N:=some 42) m31_6 rfl rfl qT ?_
          refine done_ (done_of HT_.out (by kernel_rfl)) ?_
          try go_wp2
          go_roundg k1
          case measure => have:=HK1.out;omega
          case rel => exact ⟨(wrap64 (x7_1 + 1)),qq95,H',⟨qq107⟩,⟨qq46⟩⟩
         ·replace c35:=Bool.eq_false_iff.mpr c35;subst c35;have H1 : (some false) = some r:=by rw [if_neg (show ¬ (false = true) by decide)] at H;exact H
          clear H;have H:=H1;clear H1;obtain rfl:=Option.some.inj H;have p174 : 0 ≤ (x7_1 : Int):=odt qq94;have q174 : x7_1 < (l0.length : Int):=odt qq94;obtain ⟨ad174,e174,hx174_0,hx174_1,hx174_2,hx174_3⟩:=at_T49 HR0.out x7_1 p174 q174
          cases e174
          replace hx174_0:=(ct HB.out hx174_0 :)
          replace hx174_1:=(ct HB.out hx174_1 :)
          replace hx174_2:=(ct HB.out hx174_2 :)
          replace hx174_3:=(ct HB.out hx174_3 :)
          replace p174:=eq_true p174;replace q174:=eq_true q174
          try go_wp2_with (first | ((with_reducible refine gate_dst (N:=4) rfl ?_);refine box_event ?hg (N:=4) ?hd (cs:=#[.int .i64 0,.int .i64 0,.int .i64 0,.bool false]) (t:=49) ?hr ?_;(case hd => rfl);(case hg => rfl);(case hr => exact qq96);intro gb175 hg w40 hbox hb;have BK175:=am (hbox);have GW175:=am qq134;have GE175:=am qq134;replace HB:=am qq138;clear hb hbox hg;obtain ⟨hcz41_0,hcz41_1,hcz41_2,hcz41_3,hfz41_0,hfz41_1,hfz41_2,hfz41_3⟩:=bcl4 BK175.out))
          have n0_ : Aside0 (((((w40.setCell ⟨gb175,0,none⟩ (.int .i64 ((rd_T49 l0 x7_1).f0))).setCell ⟨gb175,1,none⟩ (.int .i64 ((rd_T49 l0 x7_1).f1))).setCell ⟨gb175,2,none⟩ (.int .i64 ((rd_T49 l0 x7_1).f2))).setCell ⟨gb175,3,none⟩ (.bool ((rd_T49 l0 x7_1).f3))).heap[gb175]? = some (.cells #[.int .i64 ((rd_T49 l0 x7_1).f0),.int .i64 ((rd_T49 l0 x7_1).f1),.int .i64 ((rd_T49 l0 x7_1).f2),.bool ((rd_T49 l0 x7_1).f3)] 49 (0,0))):=⟨qq1⟩
          have n1_ : Aside0 (Below w.heap.size w ((((w40.setCell ⟨gb175,0,none⟩ (.int .i64 ((rd_T49 l0 x7_1).f0))).setCell ⟨gb175,1,none⟩ (.int .i64 ((rd_T49 l0 x7_1).f1))).setCell ⟨gb175,2,none⟩ (.int .i64 ((rd_T49 l0 x7_1).f2))).setCell ⟨gb175,3,none⟩ (.bool ((rd_T49 l0 x7_1).f3)))):=⟨qq46⟩
          (try clear BK175);(try clear HB)
          generalize ((((w40.setCell ⟨gb175,0,none⟩ (.int .i64 ((rd_T49 l0 x7_1).f0))).setCell ⟨gb175,1,none⟩ (.int .i64 ((rd_T49 l0 x7_1).f1))).setCell ⟨gb175,2,none⟩ (.int .i64 ((rd_T49 l0 x7_1).f2))).setCell ⟨gb175,3,none⟩ (.bool ((rd_T49 l0 x7_1).f3))) = w42 at n0_ n1_ ⊢
          have BK175:=n0_;have HB:=n1_;clear n0_ n1_;replace BK175:=am qq142;replace HB:=am qq141;refine start_ (n:=31) (S:=fun w' => w'.cell? ⟨gb175,0,none⟩ = some (.int .i64 ((rd_T49 l0 x7_1).f0)) ∧ w'.cell? ⟨gb175,1,none⟩ = some (.int .i64 ((rd_T49 l0 x7_1).f1)) ∧ w'.cell? ⟨gb175,2,none⟩ = some (.int .i64 ((rd_T49 l0 x7_1).f2)) ∧ w'.cell? ⟨gb175,3,none⟩ = some (.bool ((rd_T49 l0 x7_1).f3))) (ds:=[]) m0_6 (by kernel_rfl) rfl rfl ⟨(blk_cell BK175.out 0).trans rfl,(blk_cell BK175.out 1).trans rfl,(blk_cell BK175.out 2).trans rfl,(blk_cell BK175.out 3).trans rfl⟩ (fun hHeld => ?_);refine with_tabW impl_AreCrew.tab4 impl_AreCrew.bits4 (fun HT_ HW_ => ?_)
          generalize w42.drew = w43 at BK175 HB hHeld ⊢
          refine pV (i:=0) (N:=some 12) m1_6 rfl rfl qT ?_
          refine tV4 (i:=1) (N:=some 13) m2_6 rfl rfl (take_ofW HT_.out HW_.out (by kernel_rfl)) hHeld ?_
          refine one_ (i:=2) (N:=some 14) m3_6 rfl rfl (one_of HT_.out (by kernel_rfl)) (by decide) (fun K hK => ?_);refine goes_ Try.func41 (by kernel_rfl) rfl #[.int .i64 ((rd_T49 l0 x7_1).f0),.int .i64 1,.int .i64 99] (by rfl) rfl rfl qq50 ?_;with_reducible refine (impl_InRange.calls ((rd_T49 l0 x7_1).f0) 1 99 true _ A5.out).mono ?_
          rintro e w' ⟨rfl,⟨nd,rfl⟩⟩
          refine ⟨_,rfl,?_⟩;refine hK.out _ _ ⟨(blk_cell BK175.out 0).trans rfl,(blk_cell BK175.out 1).trans rfl,(blk_cell BK175.out 2).trans rfl,(blk_cell BK175.out 3).trans rfl⟩ (fun hHeld => ?_);clear hK K;refine norm_ (a':=?_) ?_ ?_;rotate_left
          ·show Act.put _ (some 14) _ = _
           simp only [Act.put,sA,s0,s1,i64_w,i32_w];rfl
          refine pV (i:=3) (N:=some 15) m4_6 rfl rfl qT ?_
          refine pV (i:=4) (N:=some 16) m5_6 rfl rfl qT ?_
          refine pV (i:=5) (N:=some 17) m6_6 rfl rfl qT ?_
          refine pV (i:=6) (N:=some 18) m7_6 rfl rfl qT ?_
          refine pV (i:=7) (N:=some 19) m8_6 rfl rfl qT ?_
          refine pW (i:=8) (N:=some 20) m9_6 rfl rfl qT ?_
          refine pW (i:=9) (N:=some 21) m32_6 rfl rfl qT ?_
          refine pW (i:=10) (N:=some 22) m33_6 rfl rfl qT ?_
          refine pW (i:=11) (N:=some 23) m34_6 rfl rfl qT ?_
          refine pW (i:=12) (N:=some 24) m35_6 rfl rfl qT ?_
          refine pW (i:=13) (N:=some 25) m36_6 rfl rfl qT ?_
          refine pW (i:=14) (N:=some 26) m15_6 rfl rfl qT ?_
          refine pW (i:=15) (N:=some 27) m16_6 rfl rfl qT ?_
          refine pW (i:=16) (N:=some 28) m17_6 rfl rfl qT ?_
          refine pV (i:=17) (N:=some 29) m18_6 rfl rfl qT ?_
          refine pV (i:=18) (N:=some 30) m19_6 rfl rfl qT ?_
          refine pV (i:=19) (N:=some 31) m20_6 rfl rfl qT ?_
          refine pV (i:=20) (N:=some 32) m21_6 rfl rfl qT ?_
          refine tV4 (i:=21) (N:=some 33) m22_6 rfl rfl (take_ofW HT_.out HW_.out (by kernel_rfl)) hHeld ?_
          refine one_ (i:=22) (N:=some 34) m23_6 rfl rfl (one_of HT_.out (by kernel_rfl)) (by decide) (fun K hK => ?_);refine goes_ Try.func41 (by kernel_rfl) rfl #[.int .i64 ((rd_T49 l0 x7_1).f1),.int .i64 0,.int .i64 100] (by rfl) rfl rfl qq50 ?_;with_reducible refine (impl_InRange.calls ((rd_T49 l0 x7_1).f1) 0 100 true _ A32.out).mono ?_
          rintro e w' ⟨rfl,⟨nd,rfl⟩⟩
          refine ⟨_,rfl,?_⟩;refine hK.out _ _ ⟨(blk_cell BK175.out 0).trans rfl,(blk_cell BK175.out 1).trans rfl,(blk_cell BK175.out 2).trans rfl,(blk_cell BK175.out 3).trans rfl⟩ (fun hHeld => ?_);clear hK K;refine norm_ (a':=?_) ?_ ?_;rotate_left
          ·show Act.put _ (some 34) _ = _
           simp only [Act.put,sA,s0,s1,i64_w,i32_w];rfl
          refine pV (i:=23) (N:=some 35) m24_6 rfl rfl qT ?_
          refine pV (i:=24) (N:=some 36) m25_6 rfl rfl qT ?_
          refine pV (i:=25) (N:=some 37) m26_6 rfl rfl qT ?_
          refine pV (i:=26) (N:=some 38) m27_6 rfl rfl qT ?_
          refine tV4 (i:=27) (N:=some 39) m28_6 rfl rfl (take_ofW HT_.out HW_.out (by kernel_rfl)) hHeld ?_
          refine one_ (i:=28) (N:=some 40) m29_6 rfl rfl (one_of HT_.out (by kernel_rfl)) (by decide) (fun K hK => ?_);refine goes_ Try.func41 (by kernel_rfl) rfl #[.int .i64 ((rd_T49 l0 x7_1).f2),.int .i64 1,.int .i64 10] (by rfl) rfl rfl qq50 ?_;with_reducible refine (impl_InRange.calls ((rd_T49 l0 x7_1).f2) 1 10 false _ A34.out).mono ?_
          rintro e w' ⟨rfl,⟨nd,rfl⟩⟩
          refine ⟨_,rfl,?_⟩;refine hK.out _ _ ⟨(blk_cell BK175.out 0).trans rfl,(blk_cell BK175.out 1).trans rfl,(blk_cell BK175.out 2).trans rfl,(blk_cell BK175.out 3).trans rfl⟩ (fun hHeld => ?_);clear hK K;refine norm_ (a':=?_) ?_ ?_;rotate_left
          ·show Act.put _ (some 40) _ = _
           simp only [Act.put,sA,s0,s1,i64_w,i32_w];rfl
          refine pV (i:=29) (N:=some 41) m30_6 rfl rfl qT ?_
          refine pV (i:=30) (N:=some 42) m31_6 rfl rfl qT ?_
          refine done_ (done_of HT_.out (by kernel_rfl)) ?_
          try go_wp2
          go_ret
          exact ⟨qq81,qq46⟩
        ·replace c33:=Bool.eq_false_iff.mpr c33;subst c33;have H1 : (some false) = some r:=by rw [if_neg (show ¬ (false = true) by decide)] at H;exact H
         clear H;have H:=H1;clear H1;obtain rfl:=Option.some.inj H;have p174 : 0 ≤ (x7_1 : Int):=odt qq94;have q174 : x7_1 < (l0.length : Int):=odt qq94;obtain ⟨ad174,e174,hx174_0,hx174_1,hx174_2,hx174_3⟩:=at_T49 HR0.out x7_1 p174 q174
         cases e174
         replace hx174_0:=(ct HB.out hx174_0 :)
         replace hx174_1:=(ct HB.out hx174_1 :)
         replace hx174_2:=(ct HB.out hx174_2 :)
         replace hx174_3:=(ct HB.out hx174_3 :)
         replace p174:=eq_true p174;replace q174:=eq_true q174
         try go_wp2_with (first | ((with_reducible refine gate_dst (N:=4) rfl ?_);refine box_event ?hg (N:=4) ?hd (cs:=#[.int .i64 0,.int .i64 0,.int .i64 0,.bool false]) (t:=49) ?hr ?_;(case hd => rfl);(case hg => rfl);(case hr => exact qq96);intro gb175 hg w44 hbox hb;have BK175:=am (hbox);have GW175:=am qq134;have GE175:=am qq134;replace HB:=am qq138;clear hb hbox hg;obtain ⟨hcz45_0,hcz45_1,hcz45_2,hcz45_3,hfz45_0,hfz45_1,hfz45_2,hfz45_3⟩:=bcl4 BK175.out))
         have n0_ : Aside0 (((((w44.setCell ⟨gb175,0,none⟩ (.int .i64 ((rd_T49 l0 x7_1).f0))).setCell ⟨gb175,1,none⟩ (.int .i64 ((rd_T49 l0 x7_1).f1))).setCell ⟨gb175,2,none⟩ (.int .i64 ((rd_T49 l0 x7_1).f2))).setCell ⟨gb175,3,none⟩ (.bool ((rd_T49 l0 x7_1).f3))).heap[gb175]? = some (.cells #[.int .i64 ((rd_T49 l0 x7_1).f0),.int .i64 ((rd_T49 l0 x7_1).f1),.int .i64 ((rd_T49 l0 x7_1).f2),.bool ((rd_T49 l0 x7_1).f3)] 49 (0,0))):=⟨qq1⟩
         have n1_ : Aside0 (Below w.heap.size w ((((w44.setCell ⟨gb175,0,none⟩ (.int .i64 ((rd_T49 l0 x7_1).f0))).setCell ⟨gb175,1,none⟩ (.int .i64 ((rd_T49 l0 x7_1).f1))).setCell ⟨gb175,2,none⟩ (.int .i64 ((rd_T49 l0 x7_1).f2))).setCell ⟨gb175,3,none⟩ (.bool ((rd_T49 l0 x7_1).f3)))):=⟨qq46⟩
         (try clear BK175);(try clear HB)
         generalize ((((w44.setCell ⟨gb175,0,none⟩ (.int .i64 ((rd_T49 l0 x7_1).f0))).setCell ⟨gb175,1,none⟩ (.int .i64 ((rd_T49 l0 x7_1).f1))).setCell ⟨gb175,2,none⟩ (.int .i64 ((rd_T49 l0 x7_1).f2))).setCell ⟨gb175,3,none⟩ (.bool ((rd_T49 l0 x7_1).f3))) = w46 at n0_ n1_ ⊢
         have BK175:=n0_;have HB:=n1_;clear n0_ n1_;replace BK175:=am qq142;replace HB:=am qq141;refine start_ (n:=31) (S:=fun w' => w'.cell? ⟨gb175,0,none⟩ = some (.int .i64 ((rd_T49 l0 x7_1).f0)) ∧ w'.cell? ⟨gb175,1,none⟩ = some (.int .i64 ((rd_T49 l0 x7_1).f1)) ∧ w'.cell? ⟨gb175,2,none⟩ = some (.int .i64 ((rd_T49 l0 x7_1).f2)) ∧ w'.cell? ⟨gb175,3,none⟩ = some (.bool ((rd_T49 l0 x7_1).f3))) (ds:=[]) m0_6 (by kernel_rfl) rfl rfl ⟨(blk_cell BK175.out 0).trans rfl,(blk_cell BK175.out 1).trans rfl,(blk_cell BK175.out 2).trans rfl,(blk_cell BK175.out 3).trans rfl⟩ (fun hHeld => ?_);refine with_tabW impl_AreCrew.tab4 impl_AreCrew.bits4 (fun HT_ HW_ => ?_)
         generalize w46.drew = w47 at BK175 HB hHeld ⊢
         refine pV (i:=0) (N:=some 12) m1_6 rfl rfl qT ?_
         refine tV4 (i:=1) (N:=some 13) m2_6 rfl rfl (take_ofW HT_.out HW_.out (by kernel_rfl)) hHeld ?_
         refine one_ (i:=2) (N:=some 14) m3_6 rfl rfl (one_of HT_.out (by kernel_rfl)) (by decide) (fun K hK => ?_);refine goes_ Try.func41 (by kernel_rfl) rfl #[.int .i64 ((rd_T49 l0 x7_1).f0),.int .i64 1,.int .i64 99] (by rfl) rfl rfl qq50 ?_;with_reducible refine (impl_InRange.calls ((rd_T49 l0 x7_1).f0) 1 99 true _ A5.out).mono ?_
         rintro e w' ⟨rfl,⟨nd,rfl⟩⟩
         refine ⟨_,rfl,?_⟩;refine hK.out _ _ ⟨(blk_cell BK175.out 0).trans rfl,(blk_cell BK175.out 1).trans rfl,(blk_cell BK175.out 2).trans rfl,(blk_cell BK175.out 3).trans rfl⟩ (fun hHeld => ?_);clear hK K;refine norm_ (a':=?_) ?_ ?_;rotate_left
         ·show Act.put _ (some 14) _ = _
          simp only [Act.put,sA,s0,s1,i64_w,i32_w];rfl
         refine pV (i:=3) (N:=some 15) m4_6 rfl rfl qT ?_
         refine pV (i:=4) (N:=some 16) m5_6 rfl rfl qT ?_
         refine pV (i:=5) (N:=some 17) m6_6 rfl rfl qT ?_
         refine pV (i:=6) (N:=some 18) m7_6 rfl rfl qT ?_
         refine pV (i:=7) (N:=some 19) m8_6 rfl rfl qT ?_
         refine pW (i:=8) (N:=some 20) m9_6 rfl rfl qT ?_
         refine pW (i:=9) (N:=some 21) m32_6 rfl rfl qT ?_
         refine pW (i:=10) (N:=some 22) m33_6 rfl rfl qT ?_
         refine pW (i:=11) (N:=some 23) m34_6 rfl rfl qT ?_
         refine pW (i:=12) (N:=some 24) m35_6 rfl rfl qT ?_
         refine pW (i:=13) (N:=some 25) m36_6 rfl rfl qT ?_
         refine pW (i:=14) (N:=some 26) m15_6 rfl rfl qT ?_
         refine pW (i:=15) (N:=some 27) m16_6 rfl rfl qT ?_
         refine pW (i:=16) (N:=some 28) m17_6 rfl rfl qT ?_
         refine pV (i:=17) (N:=some 29) m18_6 rfl rfl qT ?_
         refine pV (i:=18) (N:=some 30) m19_6 rfl rfl qT ?_
         refine pV (i:=19) (N:=some 31) m20_6 rfl rfl qT ?_
         refine pV (i:=20) (N:=some 32) m21_6 rfl rfl qT ?_
         refine tV4 (i:=21) (N:=some 33) m22_6 rfl rfl (take_ofW HT_.out HW_.out (by kernel_rfl)) hHeld ?_
         refine one_ (i:=22) (N:=some 34) m23_6 rfl rfl (one_of HT_.out (by kernel_rfl)) (by decide) (fun K hK => ?_);refine goes_ Try.func41 (by kernel_rfl) rfl #[.int .i64 ((rd_T49 l0 x7_1).f1),.int .i64 0,.int .i64 100] (by rfl) rfl rfl qq50 ?_;with_reducible refine (impl_InRange.calls ((rd_T49 l0 x7_1).f1) 0 100 false _ A32.out).mono ?_
         rintro e w' ⟨rfl,⟨nd,rfl⟩⟩
         refine ⟨_,rfl,?_⟩;refine hK.out _ _ ⟨(blk_cell BK175.out 0).trans rfl,(blk_cell BK175.out 1).trans rfl,(blk_cell BK175.out 2).trans rfl,(blk_cell BK175.out 3).trans rfl⟩ (fun hHeld => ?_);clear hK K;refine norm_ (a':=?_) ?_ ?_;rotate_left
         ·show Act.put _ (some 34) _ = _
          simp only [Act.put,sA,s0,s1,i64_w,i32_w];rfl
         refine pV (i:=23) (N:=some 35) m24_6 rfl rfl qT ?_
         refine pV (i:=24) (N:=some 36) m25_6 rfl rfl qT ?_
         refine pV (i:=25) (N:=some 37) m26_6 rfl rfl qT ?_
         refine pW (i:=26) (N:=some 38) m27_6 rfl rfl qT ?_
         refine pW (i:=27) (N:=some 39) m28_6 rfl rfl qT ?_
         refine pW (i:=28) (N:=some 40) m29_6 rfl rfl qT ?_
         refine pW (i:=29) (N:=some 41) m30_6 rfl rfl qT ?_
         refine pV (i:=30) (N:=some 42) m31_6 rfl rfl qT ?_
         refine done_ (done_of HT_.out (by kernel_rfl)) ?_
         try go_wp2
         go_ret
         exact ⟨qq81,qq46⟩
      ·replace c6:=Bool.eq_false_iff.mpr c6;subst c6;have H1 : (some false) = some r:=by rw [if_neg (show ¬ (false = true) by decide)] at H;exact H
       clear H;have H:=H1;clear H1;obtain rfl:=Option.some.inj H;have p174 : 0 ≤ (x7_1 : Int):=odt qq94;have q174 : x7_1 < (l0.length : Int):=odt qq94;obtain ⟨ad174,e174,hx174_0,hx174_1,hx174_2,hx174_3⟩:=at_T49 HR0.out x7_1 p174 q174
       cases e174
       replace hx174_0:=(ct HB.out hx174_0 :)
       replace hx174_1:=(ct HB.out hx174_1 :)
       replace hx174_2:=(ct HB.out hx174_2 :)
       replace hx174_3:=(ct HB.out hx174_3 :)
       replace p174:=eq_true p174;replace q174:=eq_true q174
       try go_wp2_with (first | ((with_reducible refine gate_dst (N:=4) rfl ?_);refine box_event ?hg (N:=4) ?hd (cs:=#[.int .i64 0,.int .i64 0,.int .i64 0,.bool false]) (t:=49) ?hr ?_;(case hd => rfl);(case hg => rfl);(case hr => exact qq96);intro gb175 hg w48 hbox hb;have BK175:=am (hbox);have GW175:=am qq134;have GE175:=am qq134;replace HB:=am qq138;clear hb hbox hg;obtain ⟨hcz49_0,hcz49_1,hcz49_2,hcz49_3,hfz49_0,hfz49_1,hfz49_2,hfz49_3⟩:=bcl4 BK175.out))
       have n0_ : Aside0 (((((w48.setCell ⟨gb175,0,none⟩ (.int .i64 ((rd_T49 l0 x7_1).f0))).setCell ⟨gb175,1,none⟩ (.int .i64 ((rd_T49 l0 x7_1).f1))).setCell ⟨gb175,2,none⟩ (.int .i64 ((rd_T49 l0 x7_1).f2))).setCell ⟨gb175,3,none⟩ (.bool ((rd_T49 l0 x7_1).f3))).heap[gb175]? = some (.cells #[.int .i64 ((rd_T49 l0 x7_1).f0),.int .i64 ((rd_T49 l0 x7_1).f1),.int .i64 ((rd_T49 l0 x7_1).f2),.bool ((rd_T49 l0 x7_1).f3)] 49 (0,0))):=⟨qq1⟩
       have n1_ : Aside0 (Below w.heap.size w ((((w48.setCell ⟨gb175,0,none⟩ (.int .i64 ((rd_T49 l0 x7_1).f0))).setCell ⟨gb175,1,none⟩ (.int .i64 ((rd_T49 l0 x7_1).f1))).setCell ⟨gb175,2,none⟩ (.int .i64 ((rd_T49 l0 x7_1).f2))).setCell ⟨gb175,3,none⟩ (.bool ((rd_T49 l0 x7_1).f3)))):=⟨qq46⟩
       (try clear BK175);(try clear HB)
       generalize ((((w48.setCell ⟨gb175,0,none⟩ (.int .i64 ((rd_T49 l0 x7_1).f0))).setCell ⟨gb175,1,none⟩ (.int .i64 ((rd_T49 l0 x7_1).f1))).setCell ⟨gb175,2,none⟩ (.int .i64 ((rd_T49 l0 x7_1).f2))).setCell ⟨gb175,3,none⟩ (.bool ((rd_T49 l0 x7_1).f3))) = w50 at n0_ n1_ ⊢
       have BK175:=n0_;have HB:=n1_;clear n0_ n1_;replace BK175:=am qq142;replace HB:=am qq141;refine start_ (n:=31) (S:=fun w' => w'.cell? ⟨gb175,0,none⟩ = some (.int .i64 ((rd_T49 l0 x7_1).f0)) ∧ w'.cell? ⟨gb175,1,none⟩ = some (.int .i64 ((rd_T49 l0 x7_1).f1)) ∧ w'.cell? ⟨gb175,2,none⟩ = some (.int .i64 ((rd_T49 l0 x7_1).f2)) ∧ w'.cell? ⟨gb175,3,none⟩ = some (.bool ((rd_T49 l0 x7_1).f3))) (ds:=[]) m0_6 (by kernel_rfl) rfl rfl ⟨(blk_cell BK175.out 0).trans rfl,(blk_cell BK175.out 1).trans rfl,(blk_cell BK175.out 2).trans rfl,(blk_cell BK175.out 3).trans rfl⟩ (fun hHeld => ?_);refine with_tabW impl_AreCrew.tab4 impl_AreCrew.bits4 (fun HT_ HW_ => ?_)
       generalize w50.drew = w51 at BK175 HB hHeld ⊢
       refine pV (i:=0) (N:=some 12) m1_6 rfl rfl qT ?_
       refine tV4 (i:=1) (N:=some 13) m2_6 rfl rfl (take_ofW HT_.out HW_.out (by kernel_rfl)) hHeld ?_
       refine one_ (i:=2) (N:=some 14) m3_6 rfl rfl (one_of HT_.out (by kernel_rfl)) (by decide) (fun K hK => ?_);refine goes_ Try.func41 (by kernel_rfl) rfl #[.int .i64 ((rd_T49 l0 x7_1).f0),.int .i64 1,.int .i64 99] (by rfl) rfl rfl qq50 ?_;with_reducible refine (impl_InRange.calls ((rd_T49 l0 x7_1).f0) 1 99 false _ A5.out).mono ?_
       rintro e w' ⟨rfl,⟨nd,rfl⟩⟩
       refine ⟨_,rfl,?_⟩;refine hK.out _ _ ⟨(blk_cell BK175.out 0).trans rfl,(blk_cell BK175.out 1).trans rfl,(blk_cell BK175.out 2).trans rfl,(blk_cell BK175.out 3).trans rfl⟩ (fun hHeld => ?_);clear hK K;refine norm_ (a':=?_) ?_ ?_;rotate_left
       ·show Act.put _ (some 14) _ = _
        simp only [Act.put,sA,s0,s1,i64_w,i32_w];rfl
       refine pV (i:=3) (N:=some 15) m4_6 rfl rfl qT ?_
       refine pV (i:=4) (N:=some 16) m5_6 rfl rfl qT ?_
       refine pW (i:=5) (N:=some 17) m6_6 rfl rfl qT ?_
       refine pW (i:=6) (N:=some 18) m7_6 rfl rfl qT ?_
       refine pW (i:=7) (N:=some 19) m8_6 rfl rfl qT ?_
       refine pW (i:=8) (N:=some 20) m9_6 rfl rfl qT ?_
       refine pW (i:=9) (N:=some 21) m32_6 rfl rfl qT ?_
       refine pW (i:=10) (N:=some 22) m33_6 rfl rfl qT ?_
       refine pW (i:=11) (N:=some 23) m34_6 rfl rfl qT ?_
       refine pW (i:=12) (N:=some 24) m35_6 rfl rfl qT ?_
       refine pW (i:=13) (N:=some 25) m36_6 rfl rfl qT ?_
       refine pW (i:=14) (N:=some 26) m15_6 rfl rfl qT ?_
       refine pW (i:=15) (N:=some 27) m16_6 rfl rfl qT ?_
       refine pW (i:=16) (N:=some 28) m17_6 rfl rfl qT ?_
       refine pW (i:=17) (N:=some 29) m18_6 rfl rfl qT ?_
       refine pV (i:=18) (N:=some 30) m19_6 rfl rfl qT ?_
       refine pV (i:=19) (N:=some 31) m20_6 rfl rfl qT ?_
       refine pW (i:=20) (N:=some 32) m21_6 rfl rfl qT ?_
       refine pW (i:=21) (N:=some 33) m22_6 rfl rfl qT ?_
       refine pW (i:=22) (N:=some 34) m23_6 rfl rfl qT ?_
       refine pW (i:=23) (N:=some 35) m24_6 rfl rfl qT ?_
       refine pV (i:=24) (N:=some 36) m25_6 rfl rfl qT ?_
       refine pV (i:=25) (N:=some 37) m26_6 rfl rfl qT ?_
       refine pW (i:=26) (N:=some 38) m27_6 rfl rfl qT ?_
       refine pW (i:=27) (N:=some 39) m28_6 rfl rfl qT ?_
       refine pW (i:=28) (N:=some 40) m29_6 rfl rfl qT ?_
       refine pW (i:=29) (N:=some 41) m30_6 rfl rfl qT ?_
       refine pV (i:=30) (N:=some 42) m31_6 rfl rfl qT ?_
       refine done_ (done_of HT_.out (by kernel_rfl)) ?_
       try go_wp2
       go_ret
       exact ⟨qq81,qq46⟩
     ·rw [if_neg c4] at H;exact absurd H (by simp)
    ·rw [if_neg c3] at H;exact absurd H (by simp)
   ·rw [if_neg c2] at H;have c2b0 : decide (x7_1 < (l0.length : Int)) = false:=decide_eq_false c2;clear c2;replace H:=bS.mp H;obtain ⟨t173,A520,H⟩:=H;replace H : (some t173) = some r:=H;have A52:=am A520;clear A520;obtain rfl:=Option.some.inj H;go_wp2_with (first | ((with_reducible refine gate_callee (f:=41) rfl ?_);refine goesL_ (some 46) rfl rfl Try.func41 (by kernel_rfl) rfl #[.int .i64 (l0.length : Int),.int .i64 1,.int .i64 8] rfl qq50 ?_;(with_reducible refine (impl_InRange.calls (l0.length : Int) 1 8 t173 _ A52.out).mono ?_);rintro e w' ⟨rfl,⟨nd,rfl⟩⟩;refine ⟨_,rfl,?_⟩))
    go_ret
    exact ⟨qq81,qq73⟩

end Go.Proofs.Ytnghncedinngoaa.PFnTents
