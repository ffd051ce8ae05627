/- Contracts of functions that the law FnJournals reaches, for its row: lines that the kit's printer wrote for this claim, set shorter by a program of this session (own.py), and what fell in Lean proved anew. Lean checks them. -/
import Derived.Test.YtdjdkngpbgobfaaSFnJournalsx0
import Derived.Test.YtdjdkngpbgobfaaSFnJournalsx6
namespace Go.Proofs.Ytdjdkngpbgobfaa.PFnJournals
open Go.RowKit Go.Proofs.YtdjdkngpbgobfaaW.PrintWords Go.Proofs.YtdjdkngpbgobfaaW.PrintLast Go.Proofs.YtdjdkngpbgobfaaW.PrintMore
attribute [local go_sem] max2_int min2_int max_two min_two max_three min_three max_four min_four   -- for this text's walks alone
set_option linter.unusedVariables false
set_option linter.unusedSimpArgs false

abbrev m0_7 : Array Bool := #[Z,Z,Z,Z,Z,Z,Z,Z,Z,Z,Z,Z,Z,Z,Z,Z,Z,Z,Z,Z,Z,Z,Z,Z,Z,Z,Z,Z,Z,Z,Z,Z,Z,Z,Z,Z,Z]
abbrev m1_7 : Array Bool := #[Y,Z,Z,Z,Z,Z,Z,Z,Z,Z,Z,Z,Z,Z,Z,Z,Z,Z,Z,Z,Z,Z,Z,Z,Z,Z,Z,Z,Z,Z,Z,Z,Z,Z,Z,Z,Z]
abbrev m2_7 : Array Bool := #[Y,Y,Z,Z,Z,Z,Z,Z,Z,Z,Z,Z,Z,Z,Z,Z,Z,Z,Z,Z,Z,Z,Z,Z,Z,Z,Z,Z,Z,Z,Z,Z,Z,Z,Z,Z,Z]
abbrev m3_7 : Array Bool := #[Y,Y,Y,Z,Z,Z,Z,Z,Z,Z,Z,Z,Z,Z,Z,Z,Z,Z,Z,Z,Z,Z,Z,Z,Z,Z,Z,Z,Z,Z,Z,Z,Z,Z,Z,Z,Z]
abbrev m4_7 : Array Bool := #[Y,Y,Y,Y,Z,Z,Z,Z,Z,Z,Z,Z,Z,Z,Z,Z,Z,Z,Z,Z,Z,Z,Z,Z,Z,Z,Z,Z,Z,Z,Z,Z,Z,Z,Z,Z,Z]
abbrev m5_7 : Array Bool := #[Y,Y,Y,Y,Y,Z,Z,Z,Z,Z,Z,Z,Z,Z,Z,Z,Z,Z,Z,Z,Z,Z,Z,Z,Z,Z,Z,Z,Z,Z,Z,Z,Z,Z,Z,Z,Z]
abbrev m6_7 : Array Bool := #[Y,Y,Y,Y,Y,Y,Z,Z,Z,Z,Z,Z,Z,Z,Z,Z,Z,Z,Z,Z,Z,Z,Z,Z,Z,Z,Z,Z,Z,Z,Z,Z,Z,Z,Z,Z,Z]
abbrev m7_7 : Array Bool := #[Y,Y,Y,Y,Y,Y,Y,Z,Z,Z,Z,Z,Z,Z,Z,Z,Z,Z,Z,Z,Z,Z,Z,Z,Z,Z,Z,Z,Z,Z,Z,Z,Z,Z,Z,Z,Z]
abbrev m8_7 : Array Bool := #[Y,Y,Y,Y,Y,Y,Y,Y,Z,Z,Z,Z,Z,Z,Z,Z,Z,Z,Z,Z,Z,Z,Z,Z,Z,Z,Z,Z,Z,Z,Z,Z,Z,Z,Z,Z,Z]
abbrev m9_7 : Array Bool := #[Y,Y,Y,Y,Y,Y,Y,Y,Y,Z,Z,Z,Z,Z,Z,Z,Z,Z,Z,Z,Z,Z,Z,Z,Z,Z,Z,Z,Z,Z,Z,Z,Z,Z,Z,Z,Z]
abbrev m10_7 : Array Bool := #[Y,Y,Y,Y,Y,Y,Y,Y,Y,Y,Z,Z,Z,Z,Z,Z,Z,Z,Z,Z,Z,Z,Z,Z,Z,Z,Z,Z,Z,Z,Z,Z,Z,Z,Z,Z,Z]
abbrev m11_7 : Array Bool := #[Y,Y,Y,Y,Y,Y,Y,Y,Y,Y,Y,Z,Z,Z,Z,Z,Z,Z,Z,Z,Z,Z,Z,Z,Z,Z,Z,Z,Z,Z,Z,Z,Z,Z,Z,Z,Z]
abbrev m12_7 : Array Bool := #[Y,Y,Y,Y,Y,Y,Y,Y,Y,Y,Y,Y,Z,Z,Z,Z,Z,Z,Z,Z,Z,Z,Z,Z,Z,Z,Z,Z,Z,Z,Z,Z,Z,Z,Z,Z,Z]
abbrev m13_7 : Array Bool := #[Y,Y,Y,Y,Y,Y,Y,Y,Y,Y,Y,Y,Y,Z,Z,Z,Z,Z,Z,Z,Z,Z,Z,Z,Z,Z,Z,Z,Z,Z,Z,Z,Z,Z,Z,Z,Z]
abbrev m14_7 : Array Bool := #[Y,Y,Y,Y,Y,Y,Y,Y,Y,Y,Y,Y,Y,Y,Z,Z,Z,Z,Z,Z,Z,Z,Z,Z,Z,Z,Z,Z,Z,Z,Z,Z,Z,Z,Z,Z,Z]
abbrev m15_7 : Array Bool := #[Y,Y,Y,Y,Y,Y,Y,Y,Y,Y,Y,Y,Y,Y,Y,Z,Z,Z,Z,Z,Z,Z,Z,Z,Z,Z,Z,Z,Z,Z,Z,Z,Z,Z,Z,Z,Z]
abbrev m16_7 : Array Bool := #[Y,Y,Y,Y,Y,Y,Y,Y,Y,Y,Y,Y,Y,Y,Y,Y,Z,Z,Z,Z,Z,Z,Z,Z,Z,Z,Z,Z,Z,Z,Z,Z,Z,Z,Z,Z,Z]
abbrev m17_7 : Array Bool := #[Y,Y,Y,Y,Y,Y,Y,Y,Y,Y,Y,Y,Y,Y,Y,Y,Y,Z,Z,Z,Z,Z,Z,Z,Z,Z,Z,Z,Z,Z,Z,Z,Z,Z,Z,Z,Z]
abbrev m18_7 : Array Bool := #[Y,Y,Y,Y,Y,Y,Y,Y,Y,Y,Y,Y,Y,Y,Y,Y,Y,Y,Z,Z,Z,Z,Z,Z,Z,Z,Z,Z,Z,Z,Z,Z,Z,Z,Z,Z,Z]
abbrev m19_7 : Array Bool := #[Y,Y,Y,Y,Y,Y,Y,Y,Y,Y,Y,Y,Y,Y,Y,Y,Y,Y,Z,Y,Z,Z,Z,Z,Z,Z,Z,Z,Z,Z,Z,Z,Z,Z,Z,Z,Z]
abbrev m20_7 : Array Bool := #[Y,Y,Y,Y,Y,Y,Y,Y,Y,Y,Y,Y,Y,Y,Y,Y,Y,Y,Y,Y,Z,Z,Z,Z,Z,Z,Z,Z,Z,Z,Z,Z,Z,Z,Z,Z,Z]
abbrev m21_7 : Array Bool := #[Y,Y,Y,Y,Y,Y,Y,Y,Y,Y,Y,Y,Y,Y,Y,Y,Y,Y,Y,Y,Y,Z,Z,Z,Z,Z,Z,Z,Z,Z,Z,Z,Z,Z,Z,Z,Z]
abbrev m22_7 : Array Bool := #[Y,Y,Y,Y,Y,Y,Y,Y,Y,Y,Y,Y,Y,Y,Y,Y,Y,Y,Y,Y,Y,Y,Z,Z,Z,Z,Z,Z,Z,Z,Z,Z,Z,Z,Z,Z,Z]
abbrev m23_7 : Array Bool := #[Y,Y,Y,Y,Y,Y,Y,Y,Y,Y,Y,Y,Y,Y,Y,Y,Y,Y,Y,Y,Y,Y,Y,Z,Z,Z,Z,Z,Z,Z,Z,Z,Z,Z,Z,Z,Z]
abbrev m24_7 : Array Bool := #[Y,Y,Y,Y,Y,Y,Y,Y,Y,Y,Y,Y,Y,Y,Y,Y,Y,Y,Y,Y,Y,Y,Y,Y,Z,Z,Z,Z,Z,Z,Z,Z,Z,Z,Z,Z,Z]
abbrev m25_7 : Array Bool := #[Y,Y,Y,Y,Y,Y,Y,Y,Y,Y,Y,Y,Y,Y,Y,Y,Y,Y,Y,Y,Y,Y,Y,Y,Y,Z,Z,Z,Z,Z,Z,Z,Z,Z,Z,Z,Z]
abbrev m26_7 : Array Bool := #[Y,Y,Y,Y,Y,Y,Y,Y,Y,Y,Y,Y,Y,Y,Y,Y,Y,Y,Y,Y,Y,Y,Y,Y,Y,Y,Z,Z,Z,Z,Z,Z,Z,Z,Z,Z,Z]
abbrev m27_7 : Array Bool := #[Y,Y,Y,Y,Y,Y,Y,Y,Y,Y,Y,Y,Y,Y,Y,Y,Y,Y,Y,Y,Y,Y,Y,Y,Y,Y,Y,Z,Z,Z,Z,Z,Z,Z,Z,Z,Z]
abbrev m28_7 : Array Bool := #[Y,Y,Y,Y,Y,Y,Y,Y,Y,Y,Y,Y,Y,Y,Y,Y,Y,Y,Y,Y,Y,Y,Y,Y,Y,Y,Y,Y,Z,Z,Z,Z,Z,Z,Z,Z,Z]
abbrev m29_7 : Array Bool := #[Y,Y,Y,Y,Y,Y,Y,Y,Y,Y,Y,Y,Y,Y,Y,Y,Y,Y,Y,Y,Y,Y,Y,Y,Y,Y,Y,Y,Y,Z,Z,Z,Z,Z,Z,Z,Z]
abbrev m30_7 : Array Bool := #[Y,Y,Y,Y,Y,Y,Y,Y,Y,Y,Y,Y,Y,Y,Y,Y,Y,Y,Y,Y,Y,Y,Y,Y,Y,Y,Y,Y,Y,Y,Z,Z,Z,Z,Z,Z,Z]
abbrev m31_7 : Array Bool := #[Y,Y,Y,Y,Y,Y,Y,Y,Y,Y,Y,Y,Y,Y,Y,Y,Y,Y,Y,Y,Y,Y,Y,Y,Y,Y,Y,Y,Y,Y,Y,Z,Z,Z,Z,Z,Z]
abbrev m32_7 : Array Bool := #[Y,Y,Y,Y,Y,Y,Y,Y,Y,Y,Y,Y,Y,Y,Y,Y,Y,Y,Y,Y,Y,Y,Y,Y,Y,Y,Y,Y,Y,Y,Y,Z,Y,Z,Z,Z,Z]
abbrev m33_7 : Array Bool := #[Y,Y,Y,Y,Y,Y,Y,Y,Y,Y,Y,Y,Y,Y,Y,Y,Y,Y,Y,Y,Y,Y,Y,Y,Y,Y,Y,Y,Y,Y,Y,Y,Y,Z,Z,Z,Z]
abbrev m34_7 : Array Bool := #[Y,Y,Y,Y,Y,Y,Y,Y,Y,Y,Y,Y,Y,Y,Y,Y,Y,Y,Y,Y,Y,Y,Y,Y,Y,Y,Y,Y,Y,Y,Y,Y,Y,Y,Z,Z,Z]
abbrev m35_7 : Array Bool := #[Y,Y,Y,Y,Y,Y,Y,Y,Y,Y,Y,Y,Y,Y,Y,Y,Y,Y,Y,Y,Y,Y,Y,Y,Y,Y,Y,Y,Y,Y,Y,Y,Y,Y,Y,Z,Z]
abbrev m36_7 : Array Bool := #[Y,Y,Y,Y,Y,Y,Y,Y,Y,Y,Y,Y,Y,Y,Y,Y,Y,Y,Y,Y,Y,Y,Y,Y,Y,Y,Y,Y,Y,Y,Y,Y,Y,Y,Y,Y,Z]
abbrev m37_7 : Array Bool := #[Y,Y,Y,Y,Y,Y,Y,Y,Y,Y,Y,Y,Y,Y,Y,Y,Y,Y,Y,Y,Y,Y,Y,Y,Y,Y,Y,Y,Y,Y,Y,Y,Y,Y,Y,Y,Y]
abbrev m38_7 : Array Bool := #[Y,Y,Y,Y,Y,Y,Y,Y,Y,Y,Y,Y,Y,Y,Y,Y,Y,Y,Y,Y,Y,Y,Y,Y,Y,Y,Y,Y,Y,Y,Y,Y,Z,Z,Z,Z,Z]
abbrev m39_7 : Array Bool := #[Y,Y,Y,Y,Y,Y,Y,Y,Y,Y,Y,Y,Y,Y,Y,Y,Y,Y,Y,Z,Z,Z,Z,Z,Z,Z,Z,Z,Z,Z,Z,Z,Z,Z,Z,Z,Z]
/-! ### spec_IsJournal: function 14 -/
mutual
def spec_IsJournal.l0 : Nat → List (S44) → Int → Int → Option (Bool)
 | 0,_,_,_ => none
 | k + 1,x0,x3,x4 => if x4 < (x0.length : Int) then (spec_IsJournal.j1 k x0 x3 x4 (decide ((x0.length : Int) ≤ 100))) else (spec_IsJournal.j1 k x0 x3 x4 false)
def spec_IsJournal.j1 : Nat → List (S44) → Int → Int → Bool → Option (Bool)
 | 0,_,_,_,_ => none
 | k + 1,x0,x3,x4,x14 => if x14 = true then (if 0 ≤ x4 then (if x4 < (x0.length : Int) then ((spec_l21Seal.f k x3 ((rd_T44 x0 x4).f0) ((rd_T44 x0 x4).f1) ((rd_T44 x0 x4).f2) ((rd_T44 x0 x4).f3)).bind fun t158 => ((spec_l1In.f ((rd_T44 x0 x4).f0) 0 10000).bind fun t159 => (if t159 = true then ((spec_l1In.f ((rd_T44 x0 x4).f1) 0 63).bind fun t160 => (if t160 = true then ((spec_l1In.f ((rd_T44 x0 x4).f2) 0 10000).bind fun t161 => (if t161 = true then (if ((rd_T44 x0 x4).f3) = t158 then (if x4 > 0 then (if 0 ≤ (wrap64 (x4 - 1)) then (if (wrap64 (x4 - 1)) < (x0.length : Int) then (if ((rd_T44 x0 (wrap64 (x4 - 1))).f0) ≥ ((rd_T44 x0 x4).f0) then (some false) else (spec_IsJournal.l0 k x0 t158 (wrap64 (x4 + 1)))) else (none)) else (none)) else (spec_IsJournal.l0 k x0 t158 (wrap64 (x4 + 1)))) else (some false)) else (some false))) else (some false))) else (some false)))) else (none)) else (none)) else (some (decide ((x0.length : Int) ≤ 100)))
end
def spec_IsJournal.f (k : Nat) (l0 : List (S44)) : Option (Bool) := spec_IsJournal.l0 k l0 0 0
theorem spec_IsJournal.mono_l : ∀ k, (∀ y0 y1 y2, LeO (spec_IsJournal.l0 k y0 y1 y2) (spec_IsJournal.l0 (k + 1) y0 y1 y2)) ∧ (∀ y0 y1 y2 y3, LeO (spec_IsJournal.j1 k y0 y1 y2 y3) (spec_IsJournal.j1 (k + 1) y0 y1 y2 y3))
 | 0 => ⟨fun _ _ _ r h => by simp [spec_IsJournal.l0] at h,fun _ _ _ _ r h => by simp [spec_IsJournal.j1] at h⟩
 | k + 1 => by
  obtain ⟨ih0,ih1⟩:=spec_IsJournal.mono_l k
  refine ⟨?_,?_⟩
  ·intro y0 y1 y2
   unfold spec_IsJournal.l0
   repeat' first
   | (with_reducible exact ih0 _ _ _)
   | (with_reducible exact ih1 _ _ _ _)
   | (with_reducible exact spec_l21Seal.mono _ _ _ _ _ _)
   | (with_reducible exact LeO.refl _)
   | (with_reducible exact LeO.none _)
   | (with_reducible refine LeO.ite ?_ ?_)
   | (with_reducible refine LeO.bind ?_ (fun _ => ?_))
   | exact ih0 _ _ _
   | exact ih1 _ _ _ _
   | exact spec_l21Seal.mono _ _ _ _ _ _
   | exact LeO.none _
   | refine LeO.ite ?_ ?_
   | refine LeO.bind ?_ (fun _ => ?_)
  ·intro y0 y1 y2 y3
   unfold spec_IsJournal.j1
   repeat' first
   | (with_reducible exact ih0 _ _ _)
   | (with_reducible exact ih1 _ _ _ _)
   | (with_reducible exact spec_l21Seal.mono _ _ _ _ _ _)
   | (with_reducible exact LeO.refl _)
   | (with_reducible exact LeO.none _)
   | (with_reducible refine LeO.ite ?_ ?_)
   | (with_reducible refine LeO.bind ?_ (fun _ => ?_))
   | exact ih0 _ _ _
   | exact ih1 _ _ _ _
   | exact spec_l21Seal.mono _ _ _ _ _ _
   | exact LeO.none _
   | refine LeO.ite ?_ ?_
   | refine LeO.bind ?_ (fun _ => ?_)
theorem spec_IsJournal.mono : ∀ a0 k, LeO (spec_IsJournal.f k a0) (spec_IsJournal.f (k + 1) a0) := by
 intro a0 k
 obtain ⟨ih0,ih1⟩:=spec_IsJournal.mono_l k
 unfold spec_IsJournal.f
 repeat' first
   | (with_reducible exact ih0 _ _ _)
   | (with_reducible exact ih1 _ _ _ _)
   | (with_reducible exact spec_l21Seal.mono _ _ _ _ _ _)
   | (with_reducible exact LeO.refl _)
   | (with_reducible exact LeO.none _)
   | (with_reducible refine LeO.ite ?_ ?_)
   | (with_reducible refine LeO.bind ?_ (fun _ => ?_))
   | exact ih0 _ _ _
   | exact ih1 _ _ _ _
   | exact spec_l21Seal.mono _ _ _ _ _ _
   | exact LeO.none _
   | refine LeO.ite ?_ ?_
   | refine LeO.bind ?_ (fun _ => ?_)
def spec_IsJournal.T7 : Bool × List (List Nat × List Nat) := (true, [([], []), ([0], [0]), ([1], [1]), ([2], [2]), ([3, 2], [3]), ([4], [4]), ([5, 4], [4, 5]), ([6, 4, 4], [4, 6]), ([7, 4], [4, 7]), ([4, 8], [4, 8]), ([9, 7], [9]), ([10], [10]), ([11, 10], [10, 11]), ([12, 10, 10], [10, 12]), ([13, 10], [10, 13]), ([10, 14], [10, 14]), ([15, 13], [15]), ([16], [16]), ([17, 16], [16, 17]), ([16], [16]), ([18, 19, 16], [16, 18, 19]), ([16, 20], [16, 20]), ([21, 16], [21]), ([22], [22]), ([23, 22], [22, 23]), ([24, 22, 22], [22, 24]), ([25], [25]), ([25], [25]), ([27, 25], [25, 27]), ([26, 28, 25], [25, 26, 28]), ([29, 25], [25, 29]), ([30, 25], [25, 30]), ([25], [25]), ([32, 25], [25, 32]), ([31, 33, 25], [25, 31, 33]), ([25, 34, 22], [22, 25, 34]), ([22, 35], [22, 35])])
def spec_IsJournal.B7 : List Nat := [0, 1, 3, 7, 15, 31, 63, 127, 255, 511, 1023, 2047, 4095, 8191, 16383, 32767, 65535, 131071, 262143, 131071, 1048575, 2097151, 4194303, 8388607, 16777215, 33554431, 67108863, 67108863, 201326591, 536870911, 1073741823, 2147483647, 67108863, 4362076159, 17179869183, 34359738367, 68719476735]
theorem spec_IsJournal.tab7 : rtab .any (opsOf Try.f14 7) = spec_IsJournal.T7 := by kernel_rfl
theorem spec_IsJournal.bits7 : waitsOk spec_IsJournal.T7.2 spec_IsJournal.B7 = true := by kernel_rfl
set_option maxHeartbeats 8000000 in
set_option maxRecDepth 100000 in
theorem spec_IsJournal.calls (k : Nat) (A0 : Option Addr) (c0 : Nat) (l0 : List (S44)) (r : Bool) (w : World) (hr0 : Kd.C k44 w A0 l0.length l0) (hc0 : l0.length ≤ c0) (h : spec_IsJournal.f k l0 = some r) :
  Calls Try.prog 14 #[.slice A0 l0.length c0] w fun e w' => e = .returned (.bool r) ∧ Below w.heap.size w w':=by
 have hu44:=Try.underlying44;have HR0:=am hr0;have HC0:=am hc0;clear hr0 hc0;have HB:=am (Below.refl w.heap.size w);have H : (spec_IsJournal.l0 k l0 0 0) = some r:=h;clear h;have H':=am H;clear H
 go_enter Try.func14,Try.ntmps14
 go_wp2
 go_loopg [3,4] k (fun kq v3 v4 w' => ∃ (x3_1 : Int) (x4_1 : Int),v3 = .int .i64 x3_1 ∧ v4 = .int .i64 x4_1 ∧ Aside0 (spec_IsJournal.l0 kq l0 x3_1 x4_1 = some r) ∧ Aside0 (kq ≤ k) ∧ Aside0 (Below w.heap.size w w'))
 case atStart => exact ⟨(0),(0),(by first | rfl | (simp;done) | (simp [*];done)),(by first | rfl | (simp;done) | (simp [*];done)),H',⟨Nat.le_refl _⟩,⟨by repeat (first | (with_reducible first | exact HB.out | apply bA | apply bN | apply bD) | exact HB.out)⟩⟩
 case round =>
  clear H'
  try clear c1
  obtain ⟨x3_1,x4_1,rfl,rfl,HA,HK1,HB⟩:=hrel
  cases gk with
  | zero => exact absurd HA.out (by simp [spec_IsJournal.l0])
  | succ k1 =>
   have H:=HA.out;clear HA;simp only [spec_IsJournal.l0] at H;have HC2:=am H;clear H
   go_upto_region 3 with (fail)
   go_cut [14] (fun v14 wc => ∃ (kq : Nat) (x14_1 : Bool),v14 = .bool x14_1 ∧ Aside0 (spec_IsJournal.j1 kq l0 x3_1 x4_1 x14_1 = some r) ∧ Aside0 (kq ≤ k1) ∧ Aside0 (Below w.heap.size w wc))
   case first =>
    have H:=HC2.out;clear HC2
    by_cases c3 : x4_1 < (l0.length : Int)
    ·rw [if_pos c3] at H;have c3b0 : decide (x4_1 < (l0.length : Int)) = true:=decide_eq_true c3;clear c3;(first | rw [c3b0] | (simp only [i64_w,i32_w];rw [c3b0]) | skip);have H':=am H;clear H;go_wp2
     go_meet
     case rel => exact ⟨_,(decide ((l0.length : Int) ≤ 100)),(by first | rfl | (simp;done) | (simp [*];done)),H',⟨by have:=HK1.out;first | omega | exact Nat.le_refl _⟩,⟨by repeat (first | (with_reducible first | exact HB.out | apply bA | apply bN | apply bD) | exact HB.out)⟩⟩
    ·rw [if_neg c3] at H;have c3b0 : decide (x4_1 < (l0.length : Int)) = false:=decide_eq_false c3;clear c3;(first | rw [c3b0] | (simp only [i64_w,i32_w];rw [c3b0]) | skip);have H':=am H;clear H;go_wp2
     go_meet
     case rel => exact ⟨_,(false),(by first | rfl | (simp;done) | (simp [*];done)),H',⟨by have:=HK1.out;first | omega | exact Nat.le_refl _⟩,⟨by repeat (first | (with_reducible first | exact HB.out | apply bA | apply bN | apply bD) | exact HB.out)⟩⟩
   case rest =>
    clear HC2
    try clear c1
    try clear p2
    try clear c3
    try clear c3b0
    obtain ⟨kq,x14_1,rfl,HA,HJ1,HB⟩:=hcut
    cases kq with
    | zero => exact absurd HA.out (by simp [spec_IsJournal.j1])
    | succ kj1 =>
     have H:=HA.out;clear HA;simp only [spec_IsJournal.j1] at H
     by_cases c4 : x14_1 = true
     ·subst c4;have H1 : (if 0 ≤ x4_1 then (if x4_1 < (l0.length : Int) then ((spec_l21Seal.f kj1 x3_1 ((rd_T44 l0 x4_1).f0) ((rd_T44 l0 x4_1).f1) ((rd_T44 l0 x4_1).f2) ((rd_T44 l0 x4_1).f3)).bind fun t158 => ((spec_l1In.f ((rd_T44 l0 x4_1).f0) 0 10000).bind fun t159 => (if t159 = true then ((spec_l1In.f ((rd_T44 l0 x4_1).f1) 0 63).bind fun t160 => (if t160 = true then ((spec_l1In.f ((rd_T44 l0 x4_1).f2) 0 10000).bind fun t161 => (if t161 = true then (if ((rd_T44 l0 x4_1).f3) = t158 then (if x4_1 > 0 then (if 0 ≤ (wrap64 (x4_1 - 1)) then (if (wrap64 (x4_1 - 1)) < (l0.length : Int) then (if ((rd_T44 l0 (wrap64 (x4_1 - 1))).f0) ≥ ((rd_T44 l0 x4_1).f0) then (some false) else (spec_IsJournal.l0 kj1 l0 t158 (wrap64 (x4_1 + 1)))) else (none)) else (none)) else (spec_IsJournal.l0 kj1 l0 t158 (wrap64 (x4_1 + 1)))) else (some false)) else (some false))) else (some false))) else (some false)))) else (none)) else (none)) = some r:=by rw [if_pos rfl] at H;exact H
      clear H;have H:=H1;clear H1
      by_cases c5 : 0 ≤ x4_1
      ·rw [if_pos c5] at H;have c5b0 : decide (0 ≤ x4_1) = true:=decide_eq_true c5;clear c5
       by_cases c6 : x4_1 < (l0.length : Int)
       ·rw [if_pos c6] at H;have c6b0 : decide (x4_1 < (l0.length : Int)) = true:=decide_eq_true c6;clear c6;replace H:=bS.mp H;obtain ⟨t158,A70,H⟩:=H;replace H : ((spec_l1In.f ((rd_T44 l0 x4_1).f0) 0 10000).bind fun t159 => (if t159 = true then ((spec_l1In.f ((rd_T44 l0 x4_1).f1) 0 63).bind fun t160 => (if t160 = true then ((spec_l1In.f ((rd_T44 l0 x4_1).f2) 0 10000).bind fun t161 => (if t161 = true then (if ((rd_T44 l0 x4_1).f3) = t158 then (if x4_1 > 0 then (if 0 ≤ (wrap64 (x4_1 - 1)) then (if (wrap64 (x4_1 - 1)) < (l0.length : Int) then (if ((rd_T44 l0 (wrap64 (x4_1 - 1))).f0) ≥ ((rd_T44 l0 x4_1).f0) then (some false) else (spec_IsJournal.l0 kj1 l0 t158 (wrap64 (x4_1 + 1)))) else (none)) else (none)) else (spec_IsJournal.l0 kj1 l0 t158 (wrap64 (x4_1 + 1)))) else (some false)) else (some false))) else (some false))) else (some false))) = some r:=H;have A7:=am A70;clear A70;replace H:=bS.mp H;obtain ⟨t159,A80,H⟩:=H;replace H : (if t159 = true then ((spec_l1In.f ((rd_T44 l0 x4_1).f1) 0 63).bind fun t160 => (if t160 = true then ((spec_l1In.f ((rd_T44 l0 x4_1).f2) 0 10000).bind fun t161 => (if t161 = true then (if ((rd_T44 l0 x4_1).f3) = t158 then (if x4_1 > 0 then (if 0 ≤ (wrap64 (x4_1 - 1)) then (if (wrap64 (x4_1 - 1)) < (l0.length : Int) then (if ((rd_T44 l0 (wrap64 (x4_1 - 1))).f0) ≥ ((rd_T44 l0 x4_1).f0) then (some false) else (spec_IsJournal.l0 kj1 l0 t158 (wrap64 (x4_1 + 1)))) else (none)) else (none)) else (spec_IsJournal.l0 kj1 l0 t158 (wrap64 (x4_1 + 1)))) else (some false)) else (some false))) else (some false))) else (some false)) = some r:=H;have A8:=am A80;clear A80
        by_cases c9 : t159 = true
        ·subst c9;have H1 : ((spec_l1In.f ((rd_T44 l0 x4_1).f1) 0 63).bind fun t160 => (if t160 = true then ((spec_l1In.f ((rd_T44 l0 x4_1).f2) 0 10000).bind fun t161 => (if t161 = true then (if ((rd_T44 l0 x4_1).f3) = t158 then (if x4_1 > 0 then (if 0 ≤ (wrap64 (x4_1 - 1)) then (if (wrap64 (x4_1 - 1)) < (l0.length : Int) then (if ((rd_T44 l0 (wrap64 (x4_1 - 1))).f0) ≥ ((rd_T44 l0 x4_1).f0) then (some false) else (spec_IsJournal.l0 kj1 l0 t158 (wrap64 (x4_1 + 1)))) else (none)) else (none)) else (spec_IsJournal.l0 kj1 l0 t158 (wrap64 (x4_1 + 1)))) else (some false)) else (some false))) else (some false))) = some r:=by rw [if_pos rfl] at H;exact H
         clear H;have H:=H1;clear H1;replace H:=bS.mp H;obtain ⟨t160,A100,H⟩:=H;replace H : (if t160 = true then ((spec_l1In.f ((rd_T44 l0 x4_1).f2) 0 10000).bind fun t161 => (if t161 = true then (if ((rd_T44 l0 x4_1).f3) = t158 then (if x4_1 > 0 then (if 0 ≤ (wrap64 (x4_1 - 1)) then (if (wrap64 (x4_1 - 1)) < (l0.length : Int) then (if ((rd_T44 l0 (wrap64 (x4_1 - 1))).f0) ≥ ((rd_T44 l0 x4_1).f0) then (some false) else (spec_IsJournal.l0 kj1 l0 t158 (wrap64 (x4_1 + 1)))) else (none)) else (none)) else (spec_IsJournal.l0 kj1 l0 t158 (wrap64 (x4_1 + 1)))) else (some false)) else (some false))) else (some false)) = some r:=H;have A10:=am A100;clear A100
         by_cases c11 : t160 = true
         ·subst c11;have H1 : ((spec_l1In.f ((rd_T44 l0 x4_1).f2) 0 10000).bind fun t161 => (if t161 = true then (if ((rd_T44 l0 x4_1).f3) = t158 then (if x4_1 > 0 then (if 0 ≤ (wrap64 (x4_1 - 1)) then (if (wrap64 (x4_1 - 1)) < (l0.length : Int) then (if ((rd_T44 l0 (wrap64 (x4_1 - 1))).f0) ≥ ((rd_T44 l0 x4_1).f0) then (some false) else (spec_IsJournal.l0 kj1 l0 t158 (wrap64 (x4_1 + 1)))) else (none)) else (none)) else (spec_IsJournal.l0 kj1 l0 t158 (wrap64 (x4_1 + 1)))) else (some false)) else (some false))) = some r:=by rw [if_pos rfl] at H;exact H
          clear H;have H:=H1;clear H1;replace H:=bS.mp H;obtain ⟨t161,A120,H⟩:=H;replace H : (if t161 = true then (if ((rd_T44 l0 x4_1).f3) = t158 then (if x4_1 > 0 then (if 0 ≤ (wrap64 (x4_1 - 1)) then (if (wrap64 (x4_1 - 1)) < (l0.length : Int) then (if ((rd_T44 l0 (wrap64 (x4_1 - 1))).f0) ≥ ((rd_T44 l0 x4_1).f0) then (some false) else (spec_IsJournal.l0 kj1 l0 t158 (wrap64 (x4_1 + 1)))) else (none)) else (none)) else (spec_IsJournal.l0 kj1 l0 t158 (wrap64 (x4_1 + 1)))) else (some false)) else (some false)) = some r:=H;have A12:=am A120;clear A120
          by_cases c13 : t161 = true
          ·subst c13;have H1 : (if ((rd_T44 l0 x4_1).f3) = t158 then (if x4_1 > 0 then (if 0 ≤ (wrap64 (x4_1 - 1)) then (if (wrap64 (x4_1 - 1)) < (l0.length : Int) then (if ((rd_T44 l0 (wrap64 (x4_1 - 1))).f0) ≥ ((rd_T44 l0 x4_1).f0) then (some false) else (spec_IsJournal.l0 kj1 l0 t158 (wrap64 (x4_1 + 1)))) else (none)) else (none)) else (spec_IsJournal.l0 kj1 l0 t158 (wrap64 (x4_1 + 1)))) else (some false)) = some r:=by rw [if_pos rfl] at H;exact H
           clear H;have H:=H1;clear H1
           by_cases c14 : ((rd_T44 l0 x4_1).f3) = t158
           ·rw [if_pos c14] at H;have c14b0 : (((rd_T44 l0 x4_1).f3) == t158) = true:=beq_iff_eq.mpr c14;have c14b1 : (((rd_T44 l0 x4_1).f3) != t158) = false:=bne_eq_false_iff_eq.mpr c14;clear c14
            by_cases c15 : x4_1 > 0
            ·rw [if_pos c15] at H;have c15b0 : decide (0 < x4_1) = true:=decide_eq_true c15;clear c15;obtain ⟨ji16,hji16⟩ : ∃ j_ : Int,(wrap64 (x4_1 - 1)) = j_:=⟨_,rfl⟩
             replace H : (if 0 ≤ (ji16) then (if (ji16) < (l0.length : Int) then (if ((rd_T44 l0 (ji16)).f0) ≥ ((rd_T44 l0 x4_1).f0) then (some false) else (spec_IsJournal.l0 kj1 l0 t158 (wrap64 (x4_1 + 1)))) else (none)) else (none)) = some r:=by first | (rw [hji16] at H;exact H) | (simp only [hji16] at H ⊢;exact H)
             (try rw [hji16] at A7);(try rw [hji16] at A8);(try rw [hji16] at A10);(try rw [hji16] at A12);have hji16w : (IntKind.i64.wrap (x4_1 - 1)) = ji16:=(i64_w _).trans hji16
             by_cases c17 : 0 ≤ (ji16)
             ·rw [if_pos c17] at H;have c17b0 : decide (0 ≤ (ji16)) = true:=decide_eq_true c17;clear c17
              by_cases c18 : (ji16) < (l0.length : Int)
              ·rw [if_pos c18] at H;have c18b0 : decide ((ji16) < (l0.length : Int)) = true:=decide_eq_true c18;clear c18
               by_cases c19 : ((rd_T44 l0 (ji16)).f0) ≥ ((rd_T44 l0 x4_1).f0)
               ·rw [if_pos c19] at H;have c19b0 : decide (((rd_T44 l0 x4_1).f0) ≤ ((rd_T44 l0 (ji16)).f0)) = true:=decide_eq_true c19;clear c19;obtain rfl:=Option.some.inj H;have p156 : 0 ≤ (x4_1 : Int):=odt (by first | (with_reducible assumption) | assumption);have q156 : x4_1 < (l0.length : Int):=odt (by first | (with_reducible assumption) | assumption);obtain ⟨ad156,e156,hx156_0,hx156_1,hx156_2,hx156_3⟩:=at_T44 HR0.out x4_1 p156 q156
                cases e156
                replace hx156_0:=(ct HB.out hx156_0 :)
                replace hx156_1:=(ct HB.out hx156_1 :)
                replace hx156_2:=(ct HB.out hx156_2 :)
                replace hx156_3:=(ct HB.out hx156_3 :)
                replace p156:=eq_true p156;replace q156:=eq_true q156
                try go_wp2_with (first | ((with_reducible refine gate_dst (N:=5) rfl ?_);(try (refine gate_guard (by rfl) ?_;dsimp only));refine box_event ?hg (N:=5) ?hd (cs:=#[.int .i64 0,.int .i64 0,.int .i64 0,.int .i64 0]) (t:=44) ?hr ?_;(case hd => rfl);(case hg => rfl);(case hr => first | (go_simp;done) | (go_simp;rfl));intro gb157 hg w20 hbox hb;have n0_:=am (below_step (by repeat (first | (with_reducible first | exact HB.out | apply bA | apply bN | apply bD) | exact HB.out)) hb);have n1_:=am (hbox);have n2_:=am ((by rw [hg];exact (below_size (by repeat (first | (with_reducible first | exact HB.out | apply bA | apply bN | apply bD) | exact HB.out))) : w.heap.size ≤ gb157));have n3_:=am ((by rw [hg];exact (below_size (by repeat (first | (with_reducible first | exact HB.out | apply bA | apply bN | apply bD) | exact HB.out))) : w.heap.size ≤ gb157));clear HB;have HB:=n0_;have BK157:=n1_;have GW157:=n2_;have GE157:=n3_;clear n0_ n1_ n2_ n3_;clear hb hbox hg;have hcz21_0 : w20.cell? ⟨gb157,0,none⟩ = some (.int .i64 0):=(blk_cell BK157.out 0).trans rfl;have hcz21_1 : w20.cell? ⟨gb157,1,none⟩ = some (.int .i64 0):=(blk_cell BK157.out 1).trans rfl;have hcz21_2 : w20.cell? ⟨gb157,2,none⟩ = some (.int .i64 0):=(blk_cell BK157.out 2).trans rfl;have hcz21_3 : w20.cell? ⟨gb157,3,none⟩ = some (.int .i64 0):=(blk_cell BK157.out 3).trans rfl;have hfz21_0:=blk_frozen BK157.out 0;have hfz21_1:=blk_frozen BK157.out 1;have hfz21_2:=blk_frozen BK157.out 2;have hfz21_3:=blk_frozen BK157.out 3) | ((with_reducible refine gate_callee (f:=51) rfl ?_);refine goesL_ (some 23) rfl rfl Try.func51 (by kernel_rfl) rfl #[.int .i64 x3_1,.agg #[.int .i64 ((rd_T44 l0 x4_1).f0),.int .i64 ((rd_T44 l0 x4_1).f1),.int .i64 ((rd_T44 l0 x4_1).f2),.int .i64 ((rd_T44 l0 x4_1).f3)]] rfl (by (try simp only [List.map_toArray,List.map_cons,List.map_nil]);first | done | rfl | (simp only [List.length_drop,List.length_take];rfl)) ?_;(with_reducible refine (spec_l21Seal.calls kj1 x3_1 ((rd_T44 l0 x4_1).f0) ((rd_T44 l0 x4_1).f1) ((rd_T44 l0 x4_1).f2) ((rd_T44 l0 x4_1).f3) t158 _ A7.out).mono ?_);rintro e w22 ⟨rfl,hb⟩;refine ⟨_,rfl,?_⟩;have n0_:=am (blk_below (g:=gb157) (o:=.cells #[.int .i64 ((rd_T44 l0 x4_1).f0),.int .i64 ((rd_T44 l0 x4_1).f1),.int .i64 ((rd_T44 l0 x4_1).f2),.int .i64 ((rd_T44 l0 x4_1).f3)] 44 (0,0)) (by (with_reducible repeat (first | refine dN ?_ _ | refine dD ?_ | refine dA ?_ _));refine blk_put (cs:=#[.int .i64 ((rd_T44 l0 x4_1).f0),.int .i64 ((rd_T44 l0 x4_1).f1),.int .i64 ((rd_T44 l0 x4_1).f2),.int .i64 0]) ?_ 3 _ rfl;(with_reducible repeat (first | refine dN ?_ _ | refine dD ?_ | refine dA ?_ _));refine blk_put (cs:=#[.int .i64 ((rd_T44 l0 x4_1).f0),.int .i64 ((rd_T44 l0 x4_1).f1),.int .i64 0,.int .i64 0]) ?_ 2 _ rfl;(with_reducible repeat (first | refine dN ?_ _ | refine dD ?_ | refine dA ?_ _));refine blk_put (cs:=#[.int .i64 ((rd_T44 l0 x4_1).f0),.int .i64 0,.int .i64 0,.int .i64 0]) ?_ 1 _ rfl;(with_reducible repeat (first | refine dN ?_ _ | refine dD ?_ | refine dA ?_ _));refine blk_put (cs:=#[.int .i64 0,.int .i64 0,.int .i64 0,.int .i64 0]) ?_ 0 _ rfl;(with_reducible repeat (first | refine dN ?_ _ | refine dD ?_ | refine dA ?_ _));exact BK157.out) hb);have n1_:=am (below_step (by repeat (first | (with_reducible first | exact HB.out | apply bA | apply bN | apply bD | refine below_set ?_ GE157.out) | exact HB.out)) hb);clear BK157;clear HB;have BK157:=n0_;have HB:=n1_;clear n0_ n1_;(try clear hb);(try clear hb2);(try clear hk);(try clear hi)))
                have n0_:=am (blk_drew BK157.out);have n1_:=am (below_drew1 HB.out);clear BK157;clear HB;have BK157:=n0_;have HB:=n1_;clear n0_ n1_;have p162 : 0 ≤ ((ji16) : Int):=odt (by first | (with_reducible assumption) | assumption);have q162 : (ji16) < (l0.length : Int):=odt (by first | (with_reducible assumption) | assumption);obtain ⟨ad162,e162,hx162_0,hx162_1,hx162_2,hx162_3⟩:=at_T44 HR0.out (ji16) p162 q162;have hw162_3:=hx162_3;have hw162_2:=hx162_2;have hw162_1:=hx162_1;have hw162_0:=hx162_0;obtain rfl : ad156 = ad162:=(by injection e162)
                replace hx162_0:=(ct HB.out hx162_0 :)
                replace hx162_1:=(ct HB.out hx162_1 :)
                replace hx162_2:=(ct HB.out hx162_2 :)
                replace hx162_3:=(ct HB.out hx162_3 :)
                replace p162:=eq_true p162;replace q162:=eq_true q162;refine start_ (n:=37) (S:=fun w' => w'.cell? ⟨gb157,0,none⟩ = some (.int .i64 ((rd_T44 l0 x4_1).f0)) ∧ w'.cell? ⟨gb157,1,none⟩ = some (.int .i64 ((rd_T44 l0 x4_1).f1)) ∧ w'.cell? ⟨gb157,2,none⟩ = some (.int .i64 ((rd_T44 l0 x4_1).f2)) ∧ w'.cell? ⟨gb157,3,none⟩ = some (.int .i64 ((rd_T44 l0 x4_1).f3)) ∧ w'.cell? (ad156.add (((ji16)).toNat * 4)) = some (.int .i64 ((rd_T44 l0 (ji16)).f0)) ∧ w'.cell? ⟨(ad156.add (((ji16)).toNat * 4)).block,(ad156.add (((ji16)).toNat * 4)).off + 1,none⟩ = some (.int .i64 ((rd_T44 l0 (ji16)).f1)) ∧ w'.cell? ⟨(ad156.add (((ji16)).toNat * 4)).block,(ad156.add (((ji16)).toNat * 4)).off + 2,none⟩ = some (.int .i64 ((rd_T44 l0 (ji16)).f2)) ∧ w'.cell? ⟨(ad156.add (((ji16)).toNat * 4)).block,(ad156.add (((ji16)).toNat * 4)).off + 3,none⟩ = some (.int .i64 ((rd_T44 l0 (ji16)).f3))) (ds:=[]) m0_7 (by kernel_rfl) rfl rfl ⟨(blk_cell BK157.out 0).trans rfl,(blk_cell BK157.out 1).trans rfl,(blk_cell BK157.out 2).trans rfl,(blk_cell BK157.out 3).trans rfl,(ct HB.out hw162_0 :),(ct HB.out hw162_1 :),(ct HB.out hw162_2 :),(ct HB.out hw162_3 :)⟩ (fun hHeld => ?_);refine with_tabW spec_IsJournal.tab7 spec_IsJournal.bits7 (fun HT_ HW_ => ?_)
                generalize w22.drew = w23 at BK157 HB hx162_0 hx162_1 hx162_2 hx162_3 hHeld ⊢
                refine pure_ (i:=0) (N:=some 24) (v:=?_) (a':=?_) m1_7 rfl rfl (any_of HT_.out (by kernel_rfl)) (fun _ _ _ h => h) (Or.inl ⟨by rfl,?_⟩) ?_ ?_;rotate_left;intro w';go_simp;(with_reducible rfl);rotate_left;simp only [Act.put,sA,s0,s1,i64_w,i32_w];rfl
                refine take_ (i:=1) (N:=some 25) (v:=?_) (a':=?_) m2_7 rfl rfl (take_ofW HT_.out HW_.out (by kernel_rfl)) (fun _ _ _ h => h) (Or.inl ⟨by rfl,?_⟩) hHeld ?_ ?_;rotate_left
                ·rintro w' ⟨s0,s1,s2,s3,s4,s5,s6,s7⟩
                 go_simp;with_reducible rfl
                rotate_left
                ·simp only [Act.put,sA,s0,s1,i64_w,i32_w];rfl
                refine one_ (i:=2) (N:=some 26) m3_7 rfl rfl (one_of HT_.out (by kernel_rfl)) (by decide) (fun K hK => ?_);refine goes_ Try.func52 (by kernel_rfl) rfl #[.int .i64 ((rd_T44 l0 x4_1).f0),.int .i64 0,.int .i64 10000] (by rfl) rfl rfl (by (try simp only [List.map_toArray,List.map_cons,List.map_nil]);first | done | rfl | (simp only [List.length_drop,List.length_take];rfl)) ?_;with_reducible refine (spec_l1In.calls ((rd_T44 l0 x4_1).f0) 0 10000 true _ A8.out).mono ?_
                rintro e w' ⟨rfl,⟨nd,rfl⟩⟩
                refine ⟨_,rfl,?_⟩;refine hK.out _ _ ⟨(blk_cell BK157.out 0).trans rfl,(blk_cell BK157.out 1).trans rfl,(blk_cell BK157.out 2).trans rfl,(blk_cell BK157.out 3).trans rfl,(ct HB.out hw162_0 :),(ct HB.out hw162_1 :),(ct HB.out hw162_2 :),(ct HB.out hw162_3 :)⟩ (fun hHeld => ?_);clear hK K;refine norm_ (a':=?_) ?_ ?_;rotate_left
                ·show Act.put _ (some 26) _ = _
                 simp only [Act.put,sA,s0,s1,i64_w,i32_w];rfl
                refine pure_ (i:=3) (N:=some 27) (v:=?_) (a':=?_) m4_7 rfl rfl (any_of HT_.out (by kernel_rfl)) (fun _ _ _ h => h) (Or.inl ⟨by rfl,?_⟩) ?_ ?_;rotate_left;intro w';go_simp;(with_reducible rfl);rotate_left;simp only [Act.put,sA,s0,s1,i64_w,i32_w];rfl
                refine pure_ (i:=4) (N:=some 28) (v:=?_) (a':=?_) m5_7 rfl rfl (any_of HT_.out (by kernel_rfl)) (fun _ _ _ h => h) (Or.inl ⟨by rfl,?_⟩) ?_ ?_;rotate_left;intro w';go_simp;(with_reducible rfl);rotate_left;simp only [Act.put,sA,s0,s1,i64_w,i32_w];rfl
                refine pure_ (i:=5) (N:=some 29) (v:=?_) (a':=?_) m6_7 rfl rfl (any_of HT_.out (by kernel_rfl)) (fun _ _ _ h => h) (Or.inl ⟨by rfl,?_⟩) ?_ ?_;rotate_left;intro w';go_simp;(with_reducible rfl);rotate_left;simp only [Act.put,sA,s0,s1,i64_w,i32_w];rfl
                refine take_ (i:=6) (N:=some 30) (v:=?_) (a':=?_) m7_7 rfl rfl (take_ofW HT_.out HW_.out (by kernel_rfl)) (fun _ _ _ h => h) (Or.inl ⟨by rfl,?_⟩) hHeld ?_ ?_;rotate_left
                ·rintro w' ⟨s0,s1,s2,s3,s4,s5,s6,s7⟩
                 go_simp;with_reducible rfl
                rotate_left
                ·simp only [Act.put,sA,s0,s1,i64_w,i32_w];rfl
                refine one_ (i:=7) (N:=some 31) m8_7 rfl rfl (one_of HT_.out (by kernel_rfl)) (by decide) (fun K hK => ?_);refine goes_ Try.func52 (by kernel_rfl) rfl #[.int .i64 ((rd_T44 l0 x4_1).f1),.int .i64 0,.int .i64 63] (by rfl) rfl rfl (by (try simp only [List.map_toArray,List.map_cons,List.map_nil]);first | done | rfl | (simp only [List.length_drop,List.length_take];rfl)) ?_;with_reducible refine (spec_l1In.calls ((rd_T44 l0 x4_1).f1) 0 63 true _ A10.out).mono ?_
                rintro e w' ⟨rfl,⟨nd,rfl⟩⟩
                refine ⟨_,rfl,?_⟩;refine hK.out _ _ ⟨(blk_cell BK157.out 0).trans rfl,(blk_cell BK157.out 1).trans rfl,(blk_cell BK157.out 2).trans rfl,(blk_cell BK157.out 3).trans rfl,(ct HB.out hw162_0 :),(ct HB.out hw162_1 :),(ct HB.out hw162_2 :),(ct HB.out hw162_3 :)⟩ (fun hHeld => ?_);clear hK K;refine norm_ (a':=?_) ?_ ?_;rotate_left
                ·show Act.put _ (some 31) _ = _
                 simp only [Act.put,sA,s0,s1,i64_w,i32_w];rfl
                refine pure_ (i:=8) (N:=some 32) (v:=?_) (a':=?_) m9_7 rfl rfl (any_of HT_.out (by kernel_rfl)) (fun _ _ _ h => h) (Or.inl ⟨by rfl,?_⟩) ?_ ?_;rotate_left;intro w';go_simp;(with_reducible rfl);rotate_left;simp only [Act.put,sA,s0,s1,i64_w,i32_w];rfl
                refine pure_ (i:=9) (N:=some 33) (v:=?_) (a':=?_) m10_7 rfl rfl (any_of HT_.out (by kernel_rfl)) (fun _ _ _ h => h) (Or.inl ⟨by rfl,?_⟩) ?_ ?_;rotate_left;intro w';go_simp;(with_reducible rfl);rotate_left;simp only [Act.put,sA,s0,s1,i64_w,i32_w];rfl
                refine pure_ (i:=10) (N:=some 34) (v:=?_) (a':=?_) m11_7 rfl rfl (any_of HT_.out (by kernel_rfl)) (fun _ _ _ h => h) (Or.inl ⟨by rfl,?_⟩) ?_ ?_;rotate_left;intro w';go_simp;(with_reducible rfl);rotate_left;simp only [Act.put,sA,s0,s1,i64_w,i32_w];rfl
                refine pure_ (i:=11) (N:=some 35) (v:=?_) (a':=?_) m12_7 rfl rfl (any_of HT_.out (by kernel_rfl)) (fun _ _ _ h => h) (Or.inl ⟨by rfl,?_⟩) ?_ ?_;rotate_left;intro w';go_simp;(with_reducible rfl);rotate_left;simp only [Act.put,sA,s0,s1,i64_w,i32_w];rfl
                refine take_ (i:=12) (N:=some 36) (v:=?_) (a':=?_) m13_7 rfl rfl (take_ofW HT_.out HW_.out (by kernel_rfl)) (fun _ _ _ h => h) (Or.inl ⟨by rfl,?_⟩) hHeld ?_ ?_;rotate_left
                ·rintro w' ⟨s0,s1,s2,s3,s4,s5,s6,s7⟩
                 go_simp;with_reducible rfl
                rotate_left
                ·simp only [Act.put,sA,s0,s1,i64_w,i32_w];rfl
                refine one_ (i:=13) (N:=some 37) m14_7 rfl rfl (one_of HT_.out (by kernel_rfl)) (by decide) (fun K hK => ?_);refine goes_ Try.func52 (by kernel_rfl) rfl #[.int .i64 ((rd_T44 l0 x4_1).f2),.int .i64 0,.int .i64 10000] (by rfl) rfl rfl (by (try simp only [List.map_toArray,List.map_cons,List.map_nil]);first | done | rfl | (simp only [List.length_drop,List.length_take];rfl)) ?_;with_reducible refine (spec_l1In.calls ((rd_T44 l0 x4_1).f2) 0 10000 true _ A12.out).mono ?_
                rintro e w' ⟨rfl,⟨nd,rfl⟩⟩
                refine ⟨_,rfl,?_⟩;refine hK.out _ _ ⟨(blk_cell BK157.out 0).trans rfl,(blk_cell BK157.out 1).trans rfl,(blk_cell BK157.out 2).trans rfl,(blk_cell BK157.out 3).trans rfl,(ct HB.out hw162_0 :),(ct HB.out hw162_1 :),(ct HB.out hw162_2 :),(ct HB.out hw162_3 :)⟩ (fun hHeld => ?_);clear hK K;refine norm_ (a':=?_) ?_ ?_;rotate_left
                ·show Act.put _ (some 37) _ = _
                 simp only [Act.put,sA,s0,s1,i64_w,i32_w];rfl
                refine pure_ (i:=14) (N:=some 38) (v:=?_) (a':=?_) m15_7 rfl rfl (any_of HT_.out (by kernel_rfl)) (fun _ _ _ h => h) (Or.inl ⟨by rfl,?_⟩) ?_ ?_;rotate_left;intro w';go_simp;(with_reducible rfl);rotate_left;simp only [Act.put,sA,s0,s1,i64_w,i32_w];rfl
                refine pure_ (i:=15) (N:=some 39) (v:=?_) (a':=?_) m16_7 rfl rfl (any_of HT_.out (by kernel_rfl)) (fun _ _ _ h => h) (Or.inl ⟨by rfl,?_⟩) ?_ ?_;rotate_left;intro w';go_simp;(with_reducible rfl);rotate_left;simp only [Act.put,sA,s0,s1,i64_w,i32_w];rfl
                refine pure_ (i:=16) (N:=some 40) (v:=?_) (a':=?_) m17_7 rfl rfl (any_of HT_.out (by kernel_rfl)) (fun _ _ _ h => h) (Or.inl ⟨by rfl,?_⟩) ?_ ?_;rotate_left;intro w';go_simp;(with_reducible rfl);rotate_left;simp only [Act.put,sA,s0,s1,i64_w,i32_w];rfl
                refine pure_ (i:=17) (N:=some 41) (v:=?_) (a':=?_) m18_7 rfl rfl (any_of HT_.out (by kernel_rfl)) (fun _ _ _ h => h) (Or.inl ⟨by rfl,?_⟩) ?_ ?_;rotate_left;intro w';go_simp;(with_reducible rfl);rotate_left;simp only [Act.put,sA,s0,s1,i64_w,i32_w];rfl
                refine pure_ (i:=19) (N:=some 43) (v:=?_) (a':=?_) m19_7 rfl rfl (any_of HT_.out (by kernel_rfl)) (fun _ _ _ h => h) (Or.inl ⟨by rfl,?_⟩) ?_ ?_;rotate_left;intro w';go_simp;(with_reducible rfl);rotate_left;simp only [Act.put,sA,s0,s1,i64_w,i32_w];rfl
                refine take_ (i:=18) (N:=some 42) (v:=?_) (a':=?_) m20_7 rfl rfl (take_ofW HT_.out HW_.out (by kernel_rfl)) (fun _ _ _ h => h) (Or.inl ⟨by rfl,?_⟩) hHeld ?_ ?_;rotate_left
                ·rintro w' ⟨s0,s1,s2,s3,s4,s5,s6,s7⟩
                 go_simp;with_reducible rfl
                rotate_left
                ·simp only [Act.put,sA,s0,s1,i64_w,i32_w];rfl
                refine pure_ (i:=20) (N:=some 44) (v:=?_) (a':=?_) m21_7 rfl rfl (any_of HT_.out (by kernel_rfl)) (fun _ _ _ h => h) (Or.inl ⟨by rfl,?_⟩) ?_ ?_;rotate_left;intro w';go_simp;(with_reducible rfl);rotate_left;simp only [Act.put,sA,s0,s1,i64_w,i32_w];rfl
                refine pure_ (i:=21) (N:=some 45) (v:=?_) (a':=?_) m22_7 rfl rfl (any_of HT_.out (by kernel_rfl)) (fun _ _ _ h => h) (Or.inl ⟨by rfl,?_⟩) ?_ ?_;rotate_left;intro w';go_simp;(with_reducible rfl);rotate_left;simp only [Act.put,sA,s0,s1,i64_w,i32_w];rfl
                refine pure_ (i:=22) (N:=some 46) (v:=?_) (a':=?_) m23_7 rfl rfl (any_of HT_.out (by kernel_rfl)) (fun _ _ _ h => h) (Or.inl ⟨by rfl,?_⟩) ?_ ?_;rotate_left;intro w';go_simp;(with_reducible rfl);rotate_left;simp only [Act.put,sA,s0,s1,i64_w,i32_w];rfl
                refine pure_ (i:=23) (N:=some 47) (v:=?_) (a':=?_) m24_7 rfl rfl (any_of HT_.out (by kernel_rfl)) (fun _ _ _ h => h) (Or.inl ⟨by rfl,?_⟩) ?_ ?_;rotate_left;intro w';go_simp;(with_reducible rfl);rotate_left;simp only [Act.put,sA,s0,s1,i64_w,i32_w];rfl
                refine pure_ (i:=24) (N:=some 48) (v:=?_) (a':=?_) m25_7 rfl rfl (any_of HT_.out (by kernel_rfl)) (fun _ _ _ h => h) (Or.inl ⟨by rfl,?_⟩) ?_ ?_;rotate_left;intro w';go_simp;(with_reducible rfl);rotate_left;simp only [Act.put,sA,s0,s1,i64_w,i32_w];rfl
                refine pure_ (i:=25) (N:=some 49) (v:=?_) (a':=?_) m26_7 rfl rfl (any_of HT_.out (by kernel_rfl)) (fun _ _ _ h => h) (Or.inl ⟨by rfl,?_⟩) ?_ ?_;rotate_left;intro w';go_simp;(with_reducible rfl);rotate_left;simp only [Act.put,sA,s0,s1,i64_w,i32_w];rfl
                refine pure_ (i:=26) (N:=some 50) (v:=?_) (a':=?_) m27_7 rfl rfl (any_of HT_.out (by kernel_rfl)) (fun _ _ _ h => h) (Or.inl ⟨by rfl,?_⟩) ?_ ?_;rotate_left;intro w';go_simp;(with_reducible rfl);rotate_left;simp only [Act.put,sA,s0,s1,i64_w,i32_w];rfl
                refine pure_ (i:=27) (N:=some 51) (v:=?_) (a':=?_) m28_7 rfl rfl (any_of HT_.out (by kernel_rfl)) (fun _ _ _ h => h) (Or.inl ⟨by rfl,?_⟩) ?_ ?_;rotate_left;intro w';go_simp;(with_reducible rfl);rotate_left;simp only [Act.put,sA,s0,s1,i64_w,i32_w];rfl
                refine pure_ (i:=28) (N:=some 52) (v:=?_) (a':=?_) m29_7 rfl rfl (any_of HT_.out (by kernel_rfl)) (fun _ _ _ h => h) (Or.inl ⟨by rfl,?_⟩) ?_ ?_;rotate_left;intro w';go_simp;(with_reducible rfl);rotate_left;simp only [Act.put,sA,s0,s1,i64_w,i32_w];rfl
                refine pure_ (i:=29) (N:=some 53) (v:=?_) (a':=?_) m30_7 rfl rfl (any_of HT_.out (by kernel_rfl)) (fun _ _ _ h => h) (Or.inl ⟨by rfl,?_⟩) ?_ ?_;rotate_left;intro w';go_simp;(with_reducible rfl);rotate_left;simp only [Act.put,sA,s0,s1,i64_w,i32_w];rfl
                refine pure_ (i:=30) (N:=some 54) (v:=?_) (a':=?_) m31_7 rfl rfl (any_of HT_.out (by kernel_rfl)) (fun _ _ _ h => h) (Or.inl ⟨by rfl,?_⟩) ?_ ?_;rotate_left;intro w';go_simp;(with_reducible rfl);rotate_left;simp only [Act.put,sA,s0,s1,i64_w,i32_w];rfl
                refine pure_ (i:=32) (N:=some 56) (v:=?_) (a':=?_) m32_7 rfl rfl (any_of HT_.out (by kernel_rfl)) (fun _ _ _ h => h) (Or.inl ⟨by rfl,?_⟩) ?_ ?_;rotate_left;intro w';go_simp;(with_reducible rfl);rotate_left;simp only [Act.put,sA,s0,s1,i64_w,i32_w];rfl
                refine take_ (i:=31) (N:=some 55) (v:=?_) (a':=?_) m33_7 rfl rfl (take_ofW HT_.out HW_.out (by kernel_rfl)) (fun _ _ _ h => h) (Or.inl ⟨by rfl,?_⟩) hHeld ?_ ?_;rotate_left
                ·rintro w' ⟨s0,s1,s2,s3,s4,s5,s6,s7⟩
                 go_simp;with_reducible rfl
                rotate_left
                ·simp only [Act.put,sA,s0,s1,i64_w,i32_w];rfl
                refine take_ (i:=33) (N:=some 57) (v:=?_) (a':=?_) m34_7 rfl rfl (take_ofW HT_.out HW_.out (by kernel_rfl)) (fun _ _ _ h => h) (Or.inl ⟨by rfl,?_⟩) hHeld ?_ ?_;rotate_left
                ·rintro w' ⟨s0,s1,s2,s3,s4,s5,s6,s7⟩
                 go_simp;with_reducible rfl
                rotate_left
                ·simp only [Act.put,sA,s0,s1,i64_w,i32_w];rfl
                refine pure_ (i:=34) (N:=some 58) (v:=?_) (a':=?_) m35_7 rfl rfl (any_of HT_.out (by kernel_rfl)) (fun _ _ _ h => h) (Or.inl ⟨by rfl,?_⟩) ?_ ?_;rotate_left;intro w';go_simp;(with_reducible rfl);rotate_left;simp only [Act.put,sA,s0,s1,i64_w,i32_w];rfl
                refine pure_ (i:=35) (N:=some 59) (v:=?_) (a':=?_) m36_7 rfl rfl (any_of HT_.out (by kernel_rfl)) (fun _ _ _ h => h) (Or.inl ⟨by rfl,?_⟩) ?_ ?_;rotate_left;intro w';go_simp;(with_reducible rfl);rotate_left;simp only [Act.put,sA,s0,s1,i64_w,i32_w];rfl
                refine pure_ (i:=36) (N:=some 60) (v:=?_) (a':=?_) m37_7 rfl rfl (any_of HT_.out (by kernel_rfl)) (fun _ _ _ h => h) (Or.inl ⟨by rfl,?_⟩) ?_ ?_;rotate_left;intro w';go_simp;(with_reducible rfl);rotate_left;simp only [Act.put,sA,s0,s1,i64_w,i32_w];rfl
                refine done_ (done_of HT_.out (by kernel_rfl)) ?_
                try go_wp2
                go_ret
                exact ⟨by first | rfl | (simp [errW_none,errW_some] <;> rfl) | (simp only [← hji16];first | rfl | (simp [errW_none,errW_some] <;> rfl)) | (simp [*,errW_none,errW_some] <;> rfl),by repeat (first | (with_reducible first | exact HB.out | apply bA | apply bN | apply bD | refine below_set ?_ GE157.out) | exact HB.out)⟩
               ·rw [if_neg c19] at H;have c19b0 : decide (((rd_T44 l0 x4_1).f0) ≤ ((rd_T44 l0 (ji16)).f0)) = false:=decide_eq_false c19;clear c19;have H':=am H;clear H;have p156 : 0 ≤ (x4_1 : Int):=odt (by first | (with_reducible assumption) | assumption);have q156 : x4_1 < (l0.length : Int):=odt (by first | (with_reducible assumption) | assumption);obtain ⟨ad156,e156,hx156_0,hx156_1,hx156_2,hx156_3⟩:=at_T44 HR0.out x4_1 p156 q156
                cases e156
                replace hx156_0:=(ct HB.out hx156_0 :)
                replace hx156_1:=(ct HB.out hx156_1 :)
                replace hx156_2:=(ct HB.out hx156_2 :)
                replace hx156_3:=(ct HB.out hx156_3 :)
                replace p156:=eq_true p156;replace q156:=eq_true q156
                try go_wp2_with (first | ((with_reducible refine gate_dst (N:=5) rfl ?_);(try (refine gate_guard (by rfl) ?_;dsimp only));refine box_event ?hg (N:=5) ?hd (cs:=#[.int .i64 0,.int .i64 0,.int .i64 0,.int .i64 0]) (t:=44) ?hr ?_;(case hd => rfl);(case hg => rfl);(case hr => first | (go_simp;done) | (go_simp;rfl));intro gb157 hg w24 hbox hb;have n0_:=am (below_step (by repeat (first | (with_reducible first | exact HB.out | apply bA | apply bN | apply bD) | exact HB.out)) hb);have n1_:=am (hbox);have n2_:=am ((by rw [hg];exact (below_size (by repeat (first | (with_reducible first | exact HB.out | apply bA | apply bN | apply bD) | exact HB.out))) : w.heap.size ≤ gb157));have n3_:=am ((by rw [hg];exact (below_size (by repeat (first | (with_reducible first | exact HB.out | apply bA | apply bN | apply bD) | exact HB.out))) : w.heap.size ≤ gb157));clear HB;have HB:=n0_;have BK157:=n1_;have GW157:=n2_;have GE157:=n3_;clear n0_ n1_ n2_ n3_;clear hb hbox hg;have hcz25_0 : w24.cell? ⟨gb157,0,none⟩ = some (.int .i64 0):=(blk_cell BK157.out 0).trans rfl;have hcz25_1 : w24.cell? ⟨gb157,1,none⟩ = some (.int .i64 0):=(blk_cell BK157.out 1).trans rfl;have hcz25_2 : w24.cell? ⟨gb157,2,none⟩ = some (.int .i64 0):=(blk_cell BK157.out 2).trans rfl;have hcz25_3 : w24.cell? ⟨gb157,3,none⟩ = some (.int .i64 0):=(blk_cell BK157.out 3).trans rfl;have hfz25_0:=blk_frozen BK157.out 0;have hfz25_1:=blk_frozen BK157.out 1;have hfz25_2:=blk_frozen BK157.out 2;have hfz25_3:=blk_frozen BK157.out 3) | ((with_reducible refine gate_callee (f:=51) rfl ?_);refine goesL_ (some 23) rfl rfl Try.func51 (by kernel_rfl) rfl #[.int .i64 x3_1,.agg #[.int .i64 ((rd_T44 l0 x4_1).f0),.int .i64 ((rd_T44 l0 x4_1).f1),.int .i64 ((rd_T44 l0 x4_1).f2),.int .i64 ((rd_T44 l0 x4_1).f3)]] rfl (by (try simp only [List.map_toArray,List.map_cons,List.map_nil]);first | done | rfl | (simp only [List.length_drop,List.length_take];rfl)) ?_;(with_reducible refine (spec_l21Seal.calls kj1 x3_1 ((rd_T44 l0 x4_1).f0) ((rd_T44 l0 x4_1).f1) ((rd_T44 l0 x4_1).f2) ((rd_T44 l0 x4_1).f3) t158 _ A7.out).mono ?_);rintro e w26 ⟨rfl,hb⟩;refine ⟨_,rfl,?_⟩;have n0_:=am (blk_below (g:=gb157) (o:=.cells #[.int .i64 ((rd_T44 l0 x4_1).f0),.int .i64 ((rd_T44 l0 x4_1).f1),.int .i64 ((rd_T44 l0 x4_1).f2),.int .i64 ((rd_T44 l0 x4_1).f3)] 44 (0,0)) (by (with_reducible repeat (first | refine dN ?_ _ | refine dD ?_ | refine dA ?_ _));refine blk_put (cs:=#[.int .i64 ((rd_T44 l0 x4_1).f0),.int .i64 ((rd_T44 l0 x4_1).f1),.int .i64 ((rd_T44 l0 x4_1).f2),.int .i64 0]) ?_ 3 _ rfl;(with_reducible repeat (first | refine dN ?_ _ | refine dD ?_ | refine dA ?_ _));refine blk_put (cs:=#[.int .i64 ((rd_T44 l0 x4_1).f0),.int .i64 ((rd_T44 l0 x4_1).f1),.int .i64 0,.int .i64 0]) ?_ 2 _ rfl;(with_reducible repeat (first | refine dN ?_ _ | refine dD ?_ | refine dA ?_ _));refine blk_put (cs:=#[.int .i64 ((rd_T44 l0 x4_1).f0),.int .i64 0,.int .i64 0,.int .i64 0]) ?_ 1 _ rfl;(with_reducible repeat (first | refine dN ?_ _ | refine dD ?_ | refine dA ?_ _));refine blk_put (cs:=#[.int .i64 0,.int .i64 0,.int .i64 0,.int .i64 0]) ?_ 0 _ rfl;(with_reducible repeat (first | refine dN ?_ _ | refine dD ?_ | refine dA ?_ _));exact BK157.out) hb);have n1_:=am (below_step (by repeat (first | (with_reducible first | exact HB.out | apply bA | apply bN | apply bD | refine below_set ?_ GE157.out) | exact HB.out)) hb);clear BK157;clear HB;have BK157:=n0_;have HB:=n1_;clear n0_ n1_;(try clear hb);(try clear hb2);(try clear hk);(try clear hi)))
                have n0_:=am (blk_drew BK157.out);have n1_:=am (below_drew1 HB.out);clear BK157;clear HB;have BK157:=n0_;have HB:=n1_;clear n0_ n1_;have p162 : 0 ≤ ((ji16) : Int):=odt (by first | (with_reducible assumption) | assumption);have q162 : (ji16) < (l0.length : Int):=odt (by first | (with_reducible assumption) | assumption);obtain ⟨ad162,e162,hx162_0,hx162_1,hx162_2,hx162_3⟩:=at_T44 HR0.out (ji16) p162 q162;have hw162_3:=hx162_3;have hw162_2:=hx162_2;have hw162_1:=hx162_1;have hw162_0:=hx162_0;obtain rfl : ad156 = ad162:=(by injection e162)
                replace hx162_0:=(ct HB.out hx162_0 :)
                replace hx162_1:=(ct HB.out hx162_1 :)
                replace hx162_2:=(ct HB.out hx162_2 :)
                replace hx162_3:=(ct HB.out hx162_3 :)
                replace p162:=eq_true p162;replace q162:=eq_true q162;refine start_ (n:=37) (S:=fun w' => w'.cell? ⟨gb157,0,none⟩ = some (.int .i64 ((rd_T44 l0 x4_1).f0)) ∧ w'.cell? ⟨gb157,1,none⟩ = some (.int .i64 ((rd_T44 l0 x4_1).f1)) ∧ w'.cell? ⟨gb157,2,none⟩ = some (.int .i64 ((rd_T44 l0 x4_1).f2)) ∧ w'.cell? ⟨gb157,3,none⟩ = some (.int .i64 ((rd_T44 l0 x4_1).f3)) ∧ w'.cell? (ad156.add (((ji16)).toNat * 4)) = some (.int .i64 ((rd_T44 l0 (ji16)).f0)) ∧ w'.cell? ⟨(ad156.add (((ji16)).toNat * 4)).block,(ad156.add (((ji16)).toNat * 4)).off + 1,none⟩ = some (.int .i64 ((rd_T44 l0 (ji16)).f1)) ∧ w'.cell? ⟨(ad156.add (((ji16)).toNat * 4)).block,(ad156.add (((ji16)).toNat * 4)).off + 2,none⟩ = some (.int .i64 ((rd_T44 l0 (ji16)).f2)) ∧ w'.cell? ⟨(ad156.add (((ji16)).toNat * 4)).block,(ad156.add (((ji16)).toNat * 4)).off + 3,none⟩ = some (.int .i64 ((rd_T44 l0 (ji16)).f3))) (ds:=[]) m0_7 (by kernel_rfl) rfl rfl ⟨(blk_cell BK157.out 0).trans rfl,(blk_cell BK157.out 1).trans rfl,(blk_cell BK157.out 2).trans rfl,(blk_cell BK157.out 3).trans rfl,(ct HB.out hw162_0 :),(ct HB.out hw162_1 :),(ct HB.out hw162_2 :),(ct HB.out hw162_3 :)⟩ (fun hHeld => ?_);refine with_tabW spec_IsJournal.tab7 spec_IsJournal.bits7 (fun HT_ HW_ => ?_)
                generalize w26.drew = w27 at BK157 HB hx162_0 hx162_1 hx162_2 hx162_3 hHeld ⊢
                refine pure_ (i:=0) (N:=some 24) (v:=?_) (a':=?_) m1_7 rfl rfl (any_of HT_.out (by kernel_rfl)) (fun _ _ _ h => h) (Or.inl ⟨by rfl,?_⟩) ?_ ?_;rotate_left;intro w';go_simp;(with_reducible rfl);rotate_left;simp only [Act.put,sA,s0,s1,i64_w,i32_w];rfl
                refine take_ (i:=1) (N:=some 25) (v:=?_) (a':=?_) m2_7 rfl rfl (take_ofW HT_.out HW_.out (by kernel_rfl)) (fun _ _ _ h => h) (Or.inl ⟨by rfl,?_⟩) hHeld ?_ ?_;rotate_left
                ·rintro w' ⟨s0,s1,s2,s3,s4,s5,s6,s7⟩
                 go_simp;with_reducible rfl
                rotate_left
                ·simp only [Act.put,sA,s0,s1,i64_w,i32_w];rfl
                refine one_ (i:=2) (N:=some 26) m3_7 rfl rfl (one_of HT_.out (by kernel_rfl)) (by decide) (fun K hK => ?_);refine goes_ Try.func52 (by kernel_rfl) rfl #[.int .i64 ((rd_T44 l0 x4_1).f0),.int .i64 0,.int .i64 10000] (by rfl) rfl rfl (by (try simp only [List.map_toArray,List.map_cons,List.map_nil]);first | done | rfl | (simp only [List.length_drop,List.length_take];rfl)) ?_;with_reducible refine (spec_l1In.calls ((rd_T44 l0 x4_1).f0) 0 10000 true _ A8.out).mono ?_
                rintro e w' ⟨rfl,⟨nd,rfl⟩⟩
                refine ⟨_,rfl,?_⟩;refine hK.out _ _ ⟨(blk_cell BK157.out 0).trans rfl,(blk_cell BK157.out 1).trans rfl,(blk_cell BK157.out 2).trans rfl,(blk_cell BK157.out 3).trans rfl,(ct HB.out hw162_0 :),(ct HB.out hw162_1 :),(ct HB.out hw162_2 :),(ct HB.out hw162_3 :)⟩ (fun hHeld => ?_);clear hK K;refine norm_ (a':=?_) ?_ ?_;rotate_left
                ·show Act.put _ (some 26) _ = _
                 simp only [Act.put,sA,s0,s1,i64_w,i32_w];rfl
                refine pure_ (i:=3) (N:=some 27) (v:=?_) (a':=?_) m4_7 rfl rfl (any_of HT_.out (by kernel_rfl)) (fun _ _ _ h => h) (Or.inl ⟨by rfl,?_⟩) ?_ ?_;rotate_left;intro w';go_simp;(with_reducible rfl);rotate_left;simp only [Act.put,sA,s0,s1,i64_w,i32_w];rfl
                refine pure_ (i:=4) (N:=some 28) (v:=?_) (a':=?_) m5_7 rfl rfl (any_of HT_.out (by kernel_rfl)) (fun _ _ _ h => h) (Or.inl ⟨by rfl,?_⟩) ?_ ?_;rotate_left;intro w';go_simp;(with_reducible rfl);rotate_left;simp only [Act.put,sA,s0,s1,i64_w,i32_w];rfl
                refine pure_ (i:=5) (N:=some 29) (v:=?_) (a':=?_) m6_7 rfl rfl (any_of HT_.out (by kernel_rfl)) (fun _ _ _ h => h) (Or.inl ⟨by rfl,?_⟩) ?_ ?_;rotate_left;intro w';go_simp;(with_reducible rfl);rotate_left;simp only [Act.put,sA,s0,s1,i64_w,i32_w];rfl
                refine take_ (i:=6) (N:=some 30) (v:=?_) (a':=?_) m7_7 rfl rfl (take_ofW HT_.out HW_.out (by kernel_rfl)) (fun _ _ _ h => h) (Or.inl ⟨by rfl,?_⟩) hHeld ?_ ?_;rotate_left
                ·rintro w' ⟨s0,s1,s2,s3,s4,s5,s6,s7⟩
                 go_simp;with_reducible rfl
                rotate_left
                ·simp only [Act.put,sA,s0,s1,i64_w,i32_w];rfl
                refine one_ (i:=7) (N:=some 31) m8_7 rfl rfl (one_of HT_.out (by kernel_rfl)) (by decide) (fun K hK => ?_);refine goes_ Try.func52 (by kernel_rfl) rfl #[.int .i64 ((rd_T44 l0 x4_1).f1),.int .i64 0,.int .i64 63] (by rfl) rfl rfl (by (try simp only [List.map_toArray,List.map_cons,List.map_nil]);first | done | rfl | (simp only [List.length_drop,List.length_take];rfl)) ?_;with_reducible refine (spec_l1In.calls ((rd_T44 l0 x4_1).f1) 0 63 true _ A10.out).mono ?_
                rintro e w' ⟨rfl,⟨nd,rfl⟩⟩
                refine ⟨_,rfl,?_⟩;refine hK.out _ _ ⟨(blk_cell BK157.out 0).trans rfl,(blk_cell BK157.out 1).trans rfl,(blk_cell BK157.out 2).trans rfl,(blk_cell BK157.out 3).trans rfl,(ct HB.out hw162_0 :),(ct HB.out hw162_1 :),(ct HB.out hw162_2 :),(ct HB.out hw162_3 :)⟩ (fun hHeld => ?_);clear hK K;refine norm_ (a':=?_) ?_ ?_;rotate_left
                ·show Act.put _ (some 31) _ = _
                 simp only [Act.put,sA,s0,s1,i64_w,i32_w];rfl
                refine pure_ (i:=8) (N:=some 32) (v:=?_) (a':=?_) m9_7 rfl rfl (any_of HT_.out (by kernel_rfl)) (fun _ _ _ h => h) (Or.inl ⟨by rfl,?_⟩) ?_ ?_;rotate_left;intro w';go_simp;(with_reducible rfl);rotate_left;simp only [Act.put,sA,s0,s1,i64_w,i32_w];rfl
                refine pure_ (i:=9) (N:=some 33) (v:=?_) (a':=?_) m10_7 rfl rfl (any_of HT_.out (by kernel_rfl)) (fun _ _ _ h => h) (Or.inl ⟨by rfl,?_⟩) ?_ ?_;rotate_left;intro w';go_simp;(with_reducible rfl);rotate_left;simp only [Act.put,sA,s0,s1,i64_w,i32_w];rfl
                refine pure_ (i:=10) (N:=some 34) (v:=?_) (a':=?_) m11_7 rfl rfl (any_of HT_.out (by kernel_rfl)) (fun _ _ _ h => h) (Or.inl ⟨by rfl,?_⟩) ?_ ?_;rotate_left;intro w';go_simp;(with_reducible rfl);rotate_left;simp only [Act.put,sA,s0,s1,i64_w,i32_w];rfl
                refine pure_ (i:=11) (N:=some 35) (v:=?_) (a':=?_) m12_7 rfl rfl (any_of HT_.out (by kernel_rfl)) (fun _ _ _ h => h) (Or.inl ⟨by rfl,?_⟩) ?_ ?_;rotate_left;intro w';go_simp;(with_reducible rfl);rotate_left;simp only [Act.put,sA,s0,s1,i64_w,i32_w];rfl
                refine take_ (i:=12) (N:=some 36) (v:=?_) (a':=?_) m13_7 rfl rfl (take_ofW HT_.out HW_.out (by kernel_rfl)) (fun _ _ _ h => h) (Or.inl ⟨by rfl,?_⟩) hHeld ?_ ?_;rotate_left
                ·rintro w' ⟨s0,s1,s2,s3,s4,s5,s6,s7⟩
                 go_simp;with_reducible rfl
                rotate_left
                ·simp only [Act.put,sA,s0,s1,i64_w,i32_w];rfl
                refine one_ (i:=13) (N:=some 37) m14_7 rfl rfl (one_of HT_.out (by kernel_rfl)) (by decide) (fun K hK => ?_);refine goes_ Try.func52 (by kernel_rfl) rfl #[.int .i64 ((rd_T44 l0 x4_1).f2),.int .i64 0,.int .i64 10000] (by rfl) rfl rfl (by (try simp only [List.map_toArray,List.map_cons,List.map_nil]);first | done | rfl | (simp only [List.length_drop,List.length_take];rfl)) ?_;with_reducible refine (spec_l1In.calls ((rd_T44 l0 x4_1).f2) 0 10000 true _ A12.out).mono ?_
                rintro e w' ⟨rfl,⟨nd,rfl⟩⟩
                refine ⟨_,rfl,?_⟩;refine hK.out _ _ ⟨(blk_cell BK157.out 0).trans rfl,(blk_cell BK157.out 1).trans rfl,(blk_cell BK157.out 2).trans rfl,(blk_cell BK157.out 3).trans rfl,(ct HB.out hw162_0 :),(ct HB.out hw162_1 :),(ct HB.out hw162_2 :),(ct HB.out hw162_3 :)⟩ (fun hHeld => ?_);clear hK K;refine norm_ (a':=?_) ?_ ?_;rotate_left
                ·show Act.put _ (some 37) _ = _
                 simp only [Act.put,sA,s0,s1,i64_w,i32_w];rfl
                refine pure_ (i:=14) (N:=some 38) (v:=?_) (a':=?_) m15_7 rfl rfl (any_of HT_.out (by kernel_rfl)) (fun _ _ _ h => h) (Or.inl ⟨by rfl,?_⟩) ?_ ?_;rotate_left;intro w';go_simp;(with_reducible rfl);rotate_left;simp only [Act.put,sA,s0,s1,i64_w,i32_w];rfl
                refine pure_ (i:=15) (N:=some 39) (v:=?_) (a':=?_) m16_7 rfl rfl (any_of HT_.out (by kernel_rfl)) (fun _ _ _ h => h) (Or.inl ⟨by rfl,?_⟩) ?_ ?_;rotate_left;intro w';go_simp;(with_reducible rfl);rotate_left;simp only [Act.put,sA,s0,s1,i64_w,i32_w];rfl
                refine pure_ (i:=16) (N:=some 40) (v:=?_) (a':=?_) m17_7 rfl rfl (any_of HT_.out (by kernel_rfl)) (fun _ _ _ h => h) (Or.inl ⟨by rfl,?_⟩) ?_ ?_;rotate_left;intro w';go_simp;(with_reducible rfl);rotate_left;simp only [Act.put,sA,s0,s1,i64_w,i32_w];rfl
                refine pure_ (i:=17) (N:=some 41) (v:=?_) (a':=?_) m18_7 rfl rfl (any_of HT_.out (by kernel_rfl)) (fun _ _ _ h => h) (Or.inl ⟨by rfl,?_⟩) ?_ ?_;rotate_left;intro w';go_simp;(with_reducible rfl);rotate_left;simp only [Act.put,sA,s0,s1,i64_w,i32_w];rfl
                refine pure_ (i:=19) (N:=some 43) (v:=?_) (a':=?_) m19_7 rfl rfl (any_of HT_.out (by kernel_rfl)) (fun _ _ _ h => h) (Or.inl ⟨by rfl,?_⟩) ?_ ?_;rotate_left;intro w';go_simp;(with_reducible rfl);rotate_left;simp only [Act.put,sA,s0,s1,i64_w,i32_w];rfl
                refine take_ (i:=18) (N:=some 42) (v:=?_) (a':=?_) m20_7 rfl rfl (take_ofW HT_.out HW_.out (by kernel_rfl)) (fun _ _ _ h => h) (Or.inl ⟨by rfl,?_⟩) hHeld ?_ ?_;rotate_left
                ·rintro w' ⟨s0,s1,s2,s3,s4,s5,s6,s7⟩
                 go_simp;with_reducible rfl
                rotate_left
                ·simp only [Act.put,sA,s0,s1,i64_w,i32_w];rfl
                refine pure_ (i:=20) (N:=some 44) (v:=?_) (a':=?_) m21_7 rfl rfl (any_of HT_.out (by kernel_rfl)) (fun _ _ _ h => h) (Or.inl ⟨by rfl,?_⟩) ?_ ?_;rotate_left;intro w';go_simp;(with_reducible rfl);rotate_left;simp only [Act.put,sA,s0,s1,i64_w,i32_w];rfl
                refine pure_ (i:=21) (N:=some 45) (v:=?_) (a':=?_) m22_7 rfl rfl (any_of HT_.out (by kernel_rfl)) (fun _ _ _ h => h) (Or.inl ⟨by rfl,?_⟩) ?_ ?_;rotate_left;intro w';go_simp;(with_reducible rfl);rotate_left;simp only [Act.put,sA,s0,s1,i64_w,i32_w];rfl
                refine pure_ (i:=22) (N:=some 46) (v:=?_) (a':=?_) m23_7 rfl rfl (any_of HT_.out (by kernel_rfl)) (fun _ _ _ h => h) (Or.inl ⟨by rfl,?_⟩) ?_ ?_;rotate_left;intro w';go_simp;(with_reducible rfl);rotate_left;simp only [Act.put,sA,s0,s1,i64_w,i32_w];rfl
                refine pure_ (i:=23) (N:=some 47) (v:=?_) (a':=?_) m24_7 rfl rfl (any_of HT_.out (by kernel_rfl)) (fun _ _ _ h => h) (Or.inl ⟨by rfl,?_⟩) ?_ ?_;rotate_left;intro w';go_simp;(with_reducible rfl);rotate_left;simp only [Act.put,sA,s0,s1,i64_w,i32_w];rfl
                refine pure_ (i:=24) (N:=some 48) (v:=?_) (a':=?_) m25_7 rfl rfl (any_of HT_.out (by kernel_rfl)) (fun _ _ _ h => h) (Or.inl ⟨by rfl,?_⟩) ?_ ?_;rotate_left;intro w';go_simp;(with_reducible rfl);rotate_left;simp only [Act.put,sA,s0,s1,i64_w,i32_w];rfl
                refine pure_ (i:=25) (N:=some 49) (v:=?_) (a':=?_) m26_7 rfl rfl (any_of HT_.out (by kernel_rfl)) (fun _ _ _ h => h) (Or.inl ⟨by rfl,?_⟩) ?_ ?_;rotate_left;intro w';go_simp;(with_reducible rfl);rotate_left;simp only [Act.put,sA,s0,s1,i64_w,i32_w];rfl
                refine pure_ (i:=26) (N:=some 50) (v:=?_) (a':=?_) m27_7 rfl rfl (any_of HT_.out (by kernel_rfl)) (fun _ _ _ h => h) (Or.inl ⟨by rfl,?_⟩) ?_ ?_;rotate_left;intro w';go_simp;(with_reducible rfl);rotate_left;simp only [Act.put,sA,s0,s1,i64_w,i32_w];rfl
                refine pure_ (i:=27) (N:=some 51) (v:=?_) (a':=?_) m28_7 rfl rfl (any_of HT_.out (by kernel_rfl)) (fun _ _ _ h => h) (Or.inl ⟨by rfl,?_⟩) ?_ ?_;rotate_left;intro w';go_simp;(with_reducible rfl);rotate_left;simp only [Act.put,sA,s0,s1,i64_w,i32_w];rfl
                refine pure_ (i:=28) (N:=some 52) (v:=?_) (a':=?_) m29_7 rfl rfl (any_of HT_.out (by kernel_rfl)) (fun _ _ _ h => h) (Or.inl ⟨by rfl,?_⟩) ?_ ?_;rotate_left;intro w';go_simp;(with_reducible rfl);rotate_left;simp only [Act.put,sA,s0,s1,i64_w,i32_w];rfl
                refine pure_ (i:=29) (N:=some 53) (v:=?_) (a':=?_) m30_7 rfl rfl (any_of HT_.out (by kernel_rfl)) (fun _ _ _ h => h) (Or.inl ⟨by rfl,?_⟩) ?_ ?_;rotate_left;intro w';go_simp;(with_reducible rfl);rotate_left;simp only [Act.put,sA,s0,s1,i64_w,i32_w];rfl
                refine pure_ (i:=30) (N:=some 54) (v:=?_) (a':=?_) m31_7 rfl rfl (any_of HT_.out (by kernel_rfl)) (fun _ _ _ h => h) (Or.inl ⟨by rfl,?_⟩) ?_ ?_;rotate_left;intro w';go_simp;(with_reducible rfl);rotate_left;simp only [Act.put,sA,s0,s1,i64_w,i32_w];rfl
                refine pure_ (i:=32) (N:=some 56) (v:=?_) (a':=?_) m32_7 rfl rfl (any_of HT_.out (by kernel_rfl)) (fun _ _ _ h => h) (Or.inl ⟨by rfl,?_⟩) ?_ ?_;rotate_left;intro w';go_simp;(with_reducible rfl);rotate_left;simp only [Act.put,sA,s0,s1,i64_w,i32_w];rfl
                refine take_ (i:=31) (N:=some 55) (v:=?_) (a':=?_) m33_7 rfl rfl (take_ofW HT_.out HW_.out (by kernel_rfl)) (fun _ _ _ h => h) (Or.inl ⟨by rfl,?_⟩) hHeld ?_ ?_;rotate_left
                ·rintro w' ⟨s0,s1,s2,s3,s4,s5,s6,s7⟩
                 go_simp;with_reducible rfl
                rotate_left
                ·simp only [Act.put,sA,s0,s1,i64_w,i32_w];rfl
                refine take_ (i:=33) (N:=some 57) (v:=?_) (a':=?_) m34_7 rfl rfl (take_ofW HT_.out HW_.out (by kernel_rfl)) (fun _ _ _ h => h) (Or.inl ⟨by rfl,?_⟩) hHeld ?_ ?_;rotate_left
                ·rintro w' ⟨s0,s1,s2,s3,s4,s5,s6,s7⟩
                 go_simp;with_reducible rfl
                rotate_left
                ·simp only [Act.put,sA,s0,s1,i64_w,i32_w];rfl
                refine pure_ (i:=34) (N:=some 58) (v:=?_) (a':=?_) m35_7 rfl rfl (any_of HT_.out (by kernel_rfl)) (fun _ _ _ h => h) (Or.inl ⟨by rfl,?_⟩) ?_ ?_;rotate_left;intro w';go_simp;(with_reducible rfl);rotate_left;simp only [Act.put,sA,s0,s1,i64_w,i32_w];rfl
                refine pure_ (i:=35) (N:=some 59) (v:=?_) (a':=?_) m36_7 rfl rfl (any_of HT_.out (by kernel_rfl)) (fun _ _ _ h => h) (Or.inl ⟨by rfl,?_⟩) ?_ ?_;rotate_left;intro w';go_simp;(with_reducible rfl);rotate_left;simp only [Act.put,sA,s0,s1,i64_w,i32_w];rfl
                refine pure_ (i:=36) (N:=some 60) (v:=?_) (a':=?_) m37_7 rfl rfl (any_of HT_.out (by kernel_rfl)) (fun _ _ _ h => h) (Or.inl ⟨by rfl,?_⟩) ?_ ?_;rotate_left;intro w';go_simp;(with_reducible rfl);rotate_left;simp only [Act.put,sA,s0,s1,i64_w,i32_w];rfl
                refine done_ (done_of HT_.out (by kernel_rfl)) ?_
                try go_wp2
                go_roundg kj1
                case measure => have:=HK1.out;have:=HJ1.out;omega
                case rel => exact ⟨(t158),(wrap64 (x4_1 + 1)),(by first | rfl | (simp;done) | (simp [*];done)),(by first | rfl | (simp;done) | (simp [*];done)),H',⟨by have:=HK1.out;have:=HJ1.out;omega⟩,⟨by repeat (first | (with_reducible first | exact HB.out | apply bA | apply bN | apply bD | refine below_set ?_ GE157.out) | exact HB.out)⟩⟩
              ·rw [if_neg c18] at H;exact absurd H (by simp)
             ·rw [if_neg c17] at H;exact absurd H (by simp)
            ·rw [if_neg c15] at H;have c15b0 : decide (0 < x4_1) = false:=decide_eq_false c15;clear c15;have H':=am H;clear H;have p156 : 0 ≤ (x4_1 : Int):=odt (by first | (with_reducible assumption) | assumption);have q156 : x4_1 < (l0.length : Int):=odt (by first | (with_reducible assumption) | assumption);obtain ⟨ad156,e156,hx156_0,hx156_1,hx156_2,hx156_3⟩:=at_T44 HR0.out x4_1 p156 q156
             cases e156
             replace hx156_0:=(ct HB.out hx156_0 :)
             replace hx156_1:=(ct HB.out hx156_1 :)
             replace hx156_2:=(ct HB.out hx156_2 :)
             replace hx156_3:=(ct HB.out hx156_3 :)
             replace p156:=eq_true p156;replace q156:=eq_true q156
             try go_wp2_with (first | ((with_reducible refine gate_dst (N:=5) rfl ?_);(try (refine gate_guard (by rfl) ?_;dsimp only));refine box_event ?hg (N:=5) ?hd (cs:=#[.int .i64 0,.int .i64 0,.int .i64 0,.int .i64 0]) (t:=44) ?hr ?_;(case hd => rfl);(case hg => rfl);(case hr => first | (go_simp;done) | (go_simp;rfl));intro gb157 hg w28 hbox hb;have n0_:=am (below_step (by repeat (first | (with_reducible first | exact HB.out | apply bA | apply bN | apply bD) | exact HB.out)) hb);have n1_:=am (hbox);have n2_:=am ((by rw [hg];exact (below_size (by repeat (first | (with_reducible first | exact HB.out | apply bA | apply bN | apply bD) | exact HB.out))) : w.heap.size ≤ gb157));have n3_:=am ((by rw [hg];exact (below_size (by repeat (first | (with_reducible first | exact HB.out | apply bA | apply bN | apply bD) | exact HB.out))) : w.heap.size ≤ gb157));clear HB;have HB:=n0_;have BK157:=n1_;have GW157:=n2_;have GE157:=n3_;clear n0_ n1_ n2_ n3_;clear hb hbox hg;have hcz29_0 : w28.cell? ⟨gb157,0,none⟩ = some (.int .i64 0):=(blk_cell BK157.out 0).trans rfl;have hcz29_1 : w28.cell? ⟨gb157,1,none⟩ = some (.int .i64 0):=(blk_cell BK157.out 1).trans rfl;have hcz29_2 : w28.cell? ⟨gb157,2,none⟩ = some (.int .i64 0):=(blk_cell BK157.out 2).trans rfl;have hcz29_3 : w28.cell? ⟨gb157,3,none⟩ = some (.int .i64 0):=(blk_cell BK157.out 3).trans rfl;have hfz29_0:=blk_frozen BK157.out 0;have hfz29_1:=blk_frozen BK157.out 1;have hfz29_2:=blk_frozen BK157.out 2;have hfz29_3:=blk_frozen BK157.out 3) | ((with_reducible refine gate_callee (f:=51) rfl ?_);refine goesL_ (some 23) rfl rfl Try.func51 (by kernel_rfl) rfl #[.int .i64 x3_1,.agg #[.int .i64 ((rd_T44 l0 x4_1).f0),.int .i64 ((rd_T44 l0 x4_1).f1),.int .i64 ((rd_T44 l0 x4_1).f2),.int .i64 ((rd_T44 l0 x4_1).f3)]] rfl (by (try simp only [List.map_toArray,List.map_cons,List.map_nil]);first | done | rfl | (simp only [List.length_drop,List.length_take];rfl)) ?_;(with_reducible refine (spec_l21Seal.calls kj1 x3_1 ((rd_T44 l0 x4_1).f0) ((rd_T44 l0 x4_1).f1) ((rd_T44 l0 x4_1).f2) ((rd_T44 l0 x4_1).f3) t158 _ A7.out).mono ?_);rintro e w30 ⟨rfl,hb⟩;refine ⟨_,rfl,?_⟩;have n0_:=am (blk_below (g:=gb157) (o:=.cells #[.int .i64 ((rd_T44 l0 x4_1).f0),.int .i64 ((rd_T44 l0 x4_1).f1),.int .i64 ((rd_T44 l0 x4_1).f2),.int .i64 ((rd_T44 l0 x4_1).f3)] 44 (0,0)) (by (with_reducible repeat (first | refine dN ?_ _ | refine dD ?_ | refine dA ?_ _));refine blk_put (cs:=#[.int .i64 ((rd_T44 l0 x4_1).f0),.int .i64 ((rd_T44 l0 x4_1).f1),.int .i64 ((rd_T44 l0 x4_1).f2),.int .i64 0]) ?_ 3 _ rfl;(with_reducible repeat (first | refine dN ?_ _ | refine dD ?_ | refine dA ?_ _));refine blk_put (cs:=#[.int .i64 ((rd_T44 l0 x4_1).f0),.int .i64 ((rd_T44 l0 x4_1).f1),.int .i64 0,.int .i64 0]) ?_ 2 _ rfl;(with_reducible repeat (first | refine dN ?_ _ | refine dD ?_ | refine dA ?_ _));refine blk_put (cs:=#[.int .i64 ((rd_T44 l0 x4_1).f0),.int .i64 0,.int .i64 0,.int .i64 0]) ?_ 1 _ rfl;(with_reducible repeat (first | refine dN ?_ _ | refine dD ?_ | refine dA ?_ _));refine blk_put (cs:=#[.int .i64 0,.int .i64 0,.int .i64 0,.int .i64 0]) ?_ 0 _ rfl;(with_reducible repeat (first | refine dN ?_ _ | refine dD ?_ | refine dA ?_ _));exact BK157.out) hb);have n1_:=am (below_step (by repeat (first | (with_reducible first | exact HB.out | apply bA | apply bN | apply bD | refine below_set ?_ GE157.out) | exact HB.out)) hb);clear BK157;clear HB;have BK157:=n0_;have HB:=n1_;clear n0_ n1_;(try clear hb);(try clear hb2);(try clear hk);(try clear hi)))
             have n0_:=am (blk_drew BK157.out);have n1_:=am (below_drew1 HB.out);clear BK157;clear HB;have BK157:=n0_;have HB:=n1_;clear n0_ n1_;refine start_ (n:=37) (S:=fun w' => w'.cell? ⟨gb157,0,none⟩ = some (.int .i64 ((rd_T44 l0 x4_1).f0)) ∧ w'.cell? ⟨gb157,1,none⟩ = some (.int .i64 ((rd_T44 l0 x4_1).f1)) ∧ w'.cell? ⟨gb157,2,none⟩ = some (.int .i64 ((rd_T44 l0 x4_1).f2)) ∧ w'.cell? ⟨gb157,3,none⟩ = some (.int .i64 ((rd_T44 l0 x4_1).f3))) (ds:=[]) m0_7 (by kernel_rfl) rfl rfl ⟨(blk_cell BK157.out 0).trans rfl,(blk_cell BK157.out 1).trans rfl,(blk_cell BK157.out 2).trans rfl,(blk_cell BK157.out 3).trans rfl⟩ (fun hHeld => ?_);refine with_tabW spec_IsJournal.tab7 spec_IsJournal.bits7 (fun HT_ HW_ => ?_)
             generalize w30.drew = w31 at BK157 HB hHeld ⊢
             refine pure_ (i:=0) (N:=some 24) (v:=?_) (a':=?_) m1_7 rfl rfl (any_of HT_.out (by kernel_rfl)) (fun _ _ _ h => h) (Or.inl ⟨by rfl,?_⟩) ?_ ?_;rotate_left;intro w';go_simp;(with_reducible rfl);rotate_left;simp only [Act.put,sA,s0,s1,i64_w,i32_w];rfl
             refine take_ (i:=1) (N:=some 25) (v:=?_) (a':=?_) m2_7 rfl rfl (take_ofW HT_.out HW_.out (by kernel_rfl)) (fun _ _ _ h => h) (Or.inl ⟨by rfl,?_⟩) hHeld ?_ ?_;rotate_left
             ·rintro w' ⟨s0,s1,s2,s3⟩
              go_simp;with_reducible rfl
             rotate_left
             ·simp only [Act.put,sA,s0,s1,i64_w,i32_w];rfl
             refine one_ (i:=2) (N:=some 26) m3_7 rfl rfl (one_of HT_.out (by kernel_rfl)) (by decide) (fun K hK => ?_);refine goes_ Try.func52 (by kernel_rfl) rfl #[.int .i64 ((rd_T44 l0 x4_1).f0),.int .i64 0,.int .i64 10000] (by rfl) rfl rfl (by (try simp only [List.map_toArray,List.map_cons,List.map_nil]);first | done | rfl | (simp only [List.length_drop,List.length_take];rfl)) ?_;with_reducible refine (spec_l1In.calls ((rd_T44 l0 x4_1).f0) 0 10000 true _ A8.out).mono ?_
             rintro e w' ⟨rfl,⟨nd,rfl⟩⟩
             refine ⟨_,rfl,?_⟩;refine hK.out _ _ ⟨(blk_cell BK157.out 0).trans rfl,(blk_cell BK157.out 1).trans rfl,(blk_cell BK157.out 2).trans rfl,(blk_cell BK157.out 3).trans rfl⟩ (fun hHeld => ?_);clear hK K;refine norm_ (a':=?_) ?_ ?_;rotate_left
             ·show Act.put _ (some 26) _ = _
              simp only [Act.put,sA,s0,s1,i64_w,i32_w];rfl
             refine pure_ (i:=3) (N:=some 27) (v:=?_) (a':=?_) m4_7 rfl rfl (any_of HT_.out (by kernel_rfl)) (fun _ _ _ h => h) (Or.inl ⟨by rfl,?_⟩) ?_ ?_;rotate_left;intro w';go_simp;(with_reducible rfl);rotate_left;simp only [Act.put,sA,s0,s1,i64_w,i32_w];rfl
             refine pure_ (i:=4) (N:=some 28) (v:=?_) (a':=?_) m5_7 rfl rfl (any_of HT_.out (by kernel_rfl)) (fun _ _ _ h => h) (Or.inl ⟨by rfl,?_⟩) ?_ ?_;rotate_left;intro w';go_simp;(with_reducible rfl);rotate_left;simp only [Act.put,sA,s0,s1,i64_w,i32_w];rfl
             refine pure_ (i:=5) (N:=some 29) (v:=?_) (a':=?_) m6_7 rfl rfl (any_of HT_.out (by kernel_rfl)) (fun _ _ _ h => h) (Or.inl ⟨by rfl,?_⟩) ?_ ?_;rotate_left;intro w';go_simp;(with_reducible rfl);rotate_left;simp only [Act.put,sA,s0,s1,i64_w,i32_w];rfl
             refine take_ (i:=6) (N:=some 30) (v:=?_) (a':=?_) m7_7 rfl rfl (take_ofW HT_.out HW_.out (by kernel_rfl)) (fun _ _ _ h => h) (Or.inl ⟨by rfl,?_⟩) hHeld ?_ ?_;rotate_left
             ·rintro w' ⟨s0,s1,s2,s3⟩
              go_simp;with_reducible rfl
             rotate_left
             ·simp only [Act.put,sA,s0,s1,i64_w,i32_w];rfl
             refine one_ (i:=7) (N:=some 31) m8_7 rfl rfl (one_of HT_.out (by kernel_rfl)) (by decide) (fun K hK => ?_);refine goes_ Try.func52 (by kernel_rfl) rfl #[.int .i64 ((rd_T44 l0 x4_1).f1),.int .i64 0,.int .i64 63] (by rfl) rfl rfl (by (try simp only [List.map_toArray,List.map_cons,List.map_nil]);first | done | rfl | (simp only [List.length_drop,List.length_take];rfl)) ?_;with_reducible refine (spec_l1In.calls ((rd_T44 l0 x4_1).f1) 0 63 true _ A10.out).mono ?_
             rintro e w' ⟨rfl,⟨nd,rfl⟩⟩
             refine ⟨_,rfl,?_⟩;refine hK.out _ _ ⟨(blk_cell BK157.out 0).trans rfl,(blk_cell BK157.out 1).trans rfl,(blk_cell BK157.out 2).trans rfl,(blk_cell BK157.out 3).trans rfl⟩ (fun hHeld => ?_);clear hK K;refine norm_ (a':=?_) ?_ ?_;rotate_left
             ·show Act.put _ (some 31) _ = _
              simp only [Act.put,sA,s0,s1,i64_w,i32_w];rfl
             refine pure_ (i:=8) (N:=some 32) (v:=?_) (a':=?_) m9_7 rfl rfl (any_of HT_.out (by kernel_rfl)) (fun _ _ _ h => h) (Or.inl ⟨by rfl,?_⟩) ?_ ?_;rotate_left;intro w';go_simp;(with_reducible rfl);rotate_left;simp only [Act.put,sA,s0,s1,i64_w,i32_w];rfl
             refine pure_ (i:=9) (N:=some 33) (v:=?_) (a':=?_) m10_7 rfl rfl (any_of HT_.out (by kernel_rfl)) (fun _ _ _ h => h) (Or.inl ⟨by rfl,?_⟩) ?_ ?_;rotate_left;intro w';go_simp;(with_reducible rfl);rotate_left;simp only [Act.put,sA,s0,s1,i64_w,i32_w];rfl
             refine pure_ (i:=10) (N:=some 34) (v:=?_) (a':=?_) m11_7 rfl rfl (any_of HT_.out (by kernel_rfl)) (fun _ _ _ h => h) (Or.inl ⟨by rfl,?_⟩) ?_ ?_;rotate_left;intro w';go_simp;(with_reducible rfl);rotate_left;simp only [Act.put,sA,s0,s1,i64_w,i32_w];rfl
             refine pure_ (i:=11) (N:=some 35) (v:=?_) (a':=?_) m12_7 rfl rfl (any_of HT_.out (by kernel_rfl)) (fun _ _ _ h => h) (Or.inl ⟨by rfl,?_⟩) ?_ ?_;rotate_left;intro w';go_simp;(with_reducible rfl);rotate_left;simp only [Act.put,sA,s0,s1,i64_w,i32_w];rfl
             refine take_ (i:=12) (N:=some 36) (v:=?_) (a':=?_) m13_7 rfl rfl (take_ofW HT_.out HW_.out (by kernel_rfl)) (fun _ _ _ h => h) (Or.inl ⟨by rfl,?_⟩) hHeld ?_ ?_;rotate_left
             ·rintro w' ⟨s0,s1,s2,s3⟩
              go_simp;with_reducible rfl
             rotate_left
             ·simp only [Act.put,sA,s0,s1,i64_w,i32_w];rfl
             refine one_ (i:=13) (N:=some 37) m14_7 rfl rfl (one_of HT_.out (by kernel_rfl)) (by decide) (fun K hK => ?_);refine goes_ Try.func52 (by kernel_rfl) rfl #[.int .i64 ((rd_T44 l0 x4_1).f2),.int .i64 0,.int .i64 10000] (by rfl) rfl rfl (by (try simp only [List.map_toArray,List.map_cons,List.map_nil]);first | done | rfl | (simp only [List.length_drop,List.length_take];rfl)) ?_;with_reducible refine (spec_l1In.calls ((rd_T44 l0 x4_1).f2) 0 10000 true _ A12.out).mono ?_
             rintro e w' ⟨rfl,⟨nd,rfl⟩⟩
             refine ⟨_,rfl,?_⟩;refine hK.out _ _ ⟨(blk_cell BK157.out 0).trans rfl,(blk_cell BK157.out 1).trans rfl,(blk_cell BK157.out 2).trans rfl,(blk_cell BK157.out 3).trans rfl⟩ (fun hHeld => ?_);clear hK K;refine norm_ (a':=?_) ?_ ?_;rotate_left
             ·show Act.put _ (some 37) _ = _
              simp only [Act.put,sA,s0,s1,i64_w,i32_w];rfl
             refine pure_ (i:=14) (N:=some 38) (v:=?_) (a':=?_) m15_7 rfl rfl (any_of HT_.out (by kernel_rfl)) (fun _ _ _ h => h) (Or.inl ⟨by rfl,?_⟩) ?_ ?_;rotate_left;intro w';go_simp;(with_reducible rfl);rotate_left;simp only [Act.put,sA,s0,s1,i64_w,i32_w];rfl
             refine pure_ (i:=15) (N:=some 39) (v:=?_) (a':=?_) m16_7 rfl rfl (any_of HT_.out (by kernel_rfl)) (fun _ _ _ h => h) (Or.inl ⟨by rfl,?_⟩) ?_ ?_;rotate_left;intro w';go_simp;(with_reducible rfl);rotate_left;simp only [Act.put,sA,s0,s1,i64_w,i32_w];rfl
             refine pure_ (i:=16) (N:=some 40) (v:=?_) (a':=?_) m17_7 rfl rfl (any_of HT_.out (by kernel_rfl)) (fun _ _ _ h => h) (Or.inl ⟨by rfl,?_⟩) ?_ ?_;rotate_left;intro w';go_simp;(with_reducible rfl);rotate_left;simp only [Act.put,sA,s0,s1,i64_w,i32_w];rfl
             refine pure_ (i:=17) (N:=some 41) (v:=?_) (a':=?_) m18_7 rfl rfl (any_of HT_.out (by kernel_rfl)) (fun _ _ _ h => h) (Or.inl ⟨by rfl,?_⟩) ?_ ?_;rotate_left;intro w';go_simp;(with_reducible rfl);rotate_left;simp only [Act.put,sA,s0,s1,i64_w,i32_w];rfl
             refine pure_ (i:=19) (N:=some 43) (v:=?_) (a':=?_) m19_7 rfl rfl (any_of HT_.out (by kernel_rfl)) (fun _ _ _ h => h) (Or.inl ⟨by rfl,?_⟩) ?_ ?_;rotate_left;intro w';go_simp;(with_reducible rfl);rotate_left;simp only [Act.put,sA,s0,s1,i64_w,i32_w];rfl
             refine take_ (i:=18) (N:=some 42) (v:=?_) (a':=?_) m20_7 rfl rfl (take_ofW HT_.out HW_.out (by kernel_rfl)) (fun _ _ _ h => h) (Or.inl ⟨by rfl,?_⟩) hHeld ?_ ?_;rotate_left
             ·rintro w' ⟨s0,s1,s2,s3⟩
              go_simp;with_reducible rfl
             rotate_left
             ·simp only [Act.put,sA,s0,s1,i64_w,i32_w];rfl
             refine pure_ (i:=20) (N:=some 44) (v:=?_) (a':=?_) m21_7 rfl rfl (any_of HT_.out (by kernel_rfl)) (fun _ _ _ h => h) (Or.inl ⟨by rfl,?_⟩) ?_ ?_;rotate_left;intro w';go_simp;(with_reducible rfl);rotate_left;simp only [Act.put,sA,s0,s1,i64_w,i32_w];rfl
             refine pure_ (i:=21) (N:=some 45) (v:=?_) (a':=?_) m22_7 rfl rfl (any_of HT_.out (by kernel_rfl)) (fun _ _ _ h => h) (Or.inl ⟨by rfl,?_⟩) ?_ ?_;rotate_left;intro w';go_simp;(with_reducible rfl);rotate_left;simp only [Act.put,sA,s0,s1,i64_w,i32_w];rfl
             refine pure_ (i:=22) (N:=some 46) (v:=?_) (a':=?_) m23_7 rfl rfl (any_of HT_.out (by kernel_rfl)) (fun _ _ _ h => h) (Or.inl ⟨by rfl,?_⟩) ?_ ?_;rotate_left;intro w';go_simp;(with_reducible rfl);rotate_left;simp only [Act.put,sA,s0,s1,i64_w,i32_w];rfl
             refine pure_ (i:=23) (N:=some 47) (v:=?_) (a':=?_) m24_7 rfl rfl (any_of HT_.out (by kernel_rfl)) (fun _ _ _ h => h) (Or.inl ⟨by rfl,?_⟩) ?_ ?_;rotate_left;intro w';go_simp;(with_reducible rfl);rotate_left;simp only [Act.put,sA,s0,s1,i64_w,i32_w];rfl
             refine pure_ (i:=24) (N:=some 48) (v:=?_) (a':=?_) m25_7 rfl rfl (any_of HT_.out (by kernel_rfl)) (fun _ _ _ h => h) (Or.inl ⟨by rfl,?_⟩) ?_ ?_;rotate_left;intro w';go_simp;(with_reducible rfl);rotate_left;simp only [Act.put,sA,s0,s1,i64_w,i32_w];rfl
             refine pure_ (i:=25) (N:=some 49) (v:=?_) (a':=?_) m26_7 rfl rfl (any_of HT_.out (by kernel_rfl)) (fun _ _ _ h => h) (Or.inl ⟨by rfl,?_⟩) ?_ ?_;rotate_left;intro w';go_simp;(with_reducible rfl);rotate_left;simp only [Act.put,sA,s0,s1,i64_w,i32_w];rfl
             refine pure_ (i:=26) (N:=some 50) (v:=undef) (a':=?_) m27_7 rfl rfl (any_of HT_.out (by kernel_rfl)) (fun _ _ _ h => h) (Or.inr ⟨by rfl,rfl⟩) ?_ ?_;rotate_left
             ·simp only [Act.put,sA,s0,s1,i64_w,i32_w];rfl
             refine pure_ (i:=27) (N:=some 51) (v:=undef) (a':=?_) m28_7 rfl rfl (any_of HT_.out (by kernel_rfl)) (fun _ _ _ h => h) (Or.inr ⟨by rfl,rfl⟩) ?_ ?_;rotate_left
             ·simp only [Act.put,sA,s0,s1,i64_w,i32_w];rfl
             refine pure_ (i:=28) (N:=some 52) (v:=undef) (a':=?_) m29_7 rfl rfl (any_of HT_.out (by kernel_rfl)) (fun _ _ _ h => h) (Or.inr ⟨by rfl,rfl⟩) ?_ ?_;rotate_left
             ·simp only [Act.put,sA,s0,s1,i64_w,i32_w];rfl
             refine pure_ (i:=29) (N:=some 53) (v:=undef) (a':=?_) m30_7 rfl rfl (any_of HT_.out (by kernel_rfl)) (fun _ _ _ h => h) (Or.inr ⟨by rfl,rfl⟩) ?_ ?_;rotate_left
             ·simp only [Act.put,sA,s0,s1,i64_w,i32_w];rfl
             refine pure_ (i:=30) (N:=some 54) (v:=undef) (a':=?_) m31_7 rfl rfl (any_of HT_.out (by kernel_rfl)) (fun _ _ _ h => h) (Or.inr ⟨by rfl,rfl⟩) ?_ ?_;rotate_left
             ·simp only [Act.put,sA,s0,s1,i64_w,i32_w];rfl
             refine pure_ (i:=31) (N:=some 55) (v:=undef) (a':=?_) m38_7 rfl rfl (any_of HT_.out (by kernel_rfl)) (fun _ _ _ h => h) (Or.inr ⟨by rfl,rfl⟩) ?_ ?_;rotate_left
             ·simp only [Act.put,sA,s0,s1,i64_w,i32_w];rfl
             refine pure_ (i:=32) (N:=some 56) (v:=undef) (a':=?_) m33_7 rfl rfl (any_of HT_.out (by kernel_rfl)) (fun _ _ _ h => h) (Or.inr ⟨by rfl,rfl⟩) ?_ ?_;rotate_left
             ·simp only [Act.put,sA,s0,s1,i64_w,i32_w];rfl
             refine pure_ (i:=33) (N:=some 57) (v:=undef) (a':=?_) m34_7 rfl rfl (any_of HT_.out (by kernel_rfl)) (fun _ _ _ h => h) (Or.inr ⟨by rfl,rfl⟩) ?_ ?_;rotate_left
             ·simp only [Act.put,sA,s0,s1,i64_w,i32_w];rfl
             refine pure_ (i:=34) (N:=some 58) (v:=undef) (a':=?_) m35_7 rfl rfl (any_of HT_.out (by kernel_rfl)) (fun _ _ _ h => h) (Or.inr ⟨by rfl,rfl⟩) ?_ ?_;rotate_left
             ·simp only [Act.put,sA,s0,s1,i64_w,i32_w];rfl
             refine pure_ (i:=35) (N:=some 59) (v:=?_) (a':=?_) m36_7 rfl rfl (any_of HT_.out (by kernel_rfl)) (fun _ _ _ h => h) (Or.inl ⟨by rfl,?_⟩) ?_ ?_;rotate_left;intro w';go_simp;(with_reducible rfl);rotate_left;simp only [Act.put,sA,s0,s1,i64_w,i32_w];rfl
             refine pure_ (i:=36) (N:=some 60) (v:=?_) (a':=?_) m37_7 rfl rfl (any_of HT_.out (by kernel_rfl)) (fun _ _ _ h => h) (Or.inl ⟨by rfl,?_⟩) ?_ ?_;rotate_left;intro w';go_simp;(with_reducible rfl);rotate_left;simp only [Act.put,sA,s0,s1,i64_w,i32_w];rfl
             refine done_ (done_of HT_.out (by kernel_rfl)) ?_
             try go_wp2
             go_roundg kj1
             case measure => have:=HK1.out;have:=HJ1.out;omega
             case rel => exact ⟨(t158),(wrap64 (x4_1 + 1)),(by first | rfl | (simp;done) | (simp [*];done)),(by first | rfl | (simp;done) | (simp [*];done)),H',⟨by have:=HK1.out;have:=HJ1.out;omega⟩,⟨by repeat (first | (with_reducible first | exact HB.out | apply bA | apply bN | apply bD | refine below_set ?_ GE157.out) | exact HB.out)⟩⟩
           ·rw [if_neg c14] at H;have c14b0 : (((rd_T44 l0 x4_1).f3) == t158) = false:=beq_eq_false_iff_ne.mpr c14;have c14b1 : (((rd_T44 l0 x4_1).f3) != t158) = true:=bne_iff_ne.mpr c14;obtain rfl:=Option.some.inj H;have p156 : 0 ≤ (x4_1 : Int):=odt (by first | (with_reducible assumption) | assumption);have q156 : x4_1 < (l0.length : Int):=odt (by first | (with_reducible assumption) | assumption);obtain ⟨ad156,e156,hx156_0,hx156_1,hx156_2,hx156_3⟩:=at_T44 HR0.out x4_1 p156 q156
            cases e156
            replace hx156_0:=(ct HB.out hx156_0 :)
            replace hx156_1:=(ct HB.out hx156_1 :)
            replace hx156_2:=(ct HB.out hx156_2 :)
            replace hx156_3:=(ct HB.out hx156_3 :)
            replace p156:=eq_true p156;replace q156:=eq_true q156
            try go_wp2_with (first | ((with_reducible refine gate_dst (N:=5) rfl ?_);(try (refine gate_guard (by rfl) ?_;dsimp only));refine box_event ?hg (N:=5) ?hd (cs:=#[.int .i64 0,.int .i64 0,.int .i64 0,.int .i64 0]) (t:=44) ?hr ?_;(case hd => rfl);(case hg => rfl);(case hr => first | (go_simp;done) | (go_simp;rfl));intro gb157 hg w32 hbox hb;have n0_:=am (below_step (by repeat (first | (with_reducible first | exact HB.out | apply bA | apply bN | apply bD) | exact HB.out)) hb);have n1_:=am (hbox);have n2_:=am ((by rw [hg];exact (below_size (by repeat (first | (with_reducible first | exact HB.out | apply bA | apply bN | apply bD) | exact HB.out))) : w.heap.size ≤ gb157));have n3_:=am ((by rw [hg];exact (below_size (by repeat (first | (with_reducible first | exact HB.out | apply bA | apply bN | apply bD) | exact HB.out))) : w.heap.size ≤ gb157));clear HB;have HB:=n0_;have BK157:=n1_;have GW157:=n2_;have GE157:=n3_;clear n0_ n1_ n2_ n3_;clear hb hbox hg;have hcz33_0 : w32.cell? ⟨gb157,0,none⟩ = some (.int .i64 0):=(blk_cell BK157.out 0).trans rfl;have hcz33_1 : w32.cell? ⟨gb157,1,none⟩ = some (.int .i64 0):=(blk_cell BK157.out 1).trans rfl;have hcz33_2 : w32.cell? ⟨gb157,2,none⟩ = some (.int .i64 0):=(blk_cell BK157.out 2).trans rfl;have hcz33_3 : w32.cell? ⟨gb157,3,none⟩ = some (.int .i64 0):=(blk_cell BK157.out 3).trans rfl;have hfz33_0:=blk_frozen BK157.out 0;have hfz33_1:=blk_frozen BK157.out 1;have hfz33_2:=blk_frozen BK157.out 2;have hfz33_3:=blk_frozen BK157.out 3) | ((with_reducible refine gate_callee (f:=51) rfl ?_);refine goesL_ (some 23) rfl rfl Try.func51 (by kernel_rfl) rfl #[.int .i64 x3_1,.agg #[.int .i64 ((rd_T44 l0 x4_1).f0),.int .i64 ((rd_T44 l0 x4_1).f1),.int .i64 ((rd_T44 l0 x4_1).f2),.int .i64 ((rd_T44 l0 x4_1).f3)]] rfl (by (try simp only [List.map_toArray,List.map_cons,List.map_nil]);first | done | rfl | (simp only [List.length_drop,List.length_take];rfl)) ?_;(with_reducible refine (spec_l21Seal.calls kj1 x3_1 ((rd_T44 l0 x4_1).f0) ((rd_T44 l0 x4_1).f1) ((rd_T44 l0 x4_1).f2) ((rd_T44 l0 x4_1).f3) t158 _ A7.out).mono ?_);rintro e w34 ⟨rfl,hb⟩;refine ⟨_,rfl,?_⟩;have n0_:=am (blk_below (g:=gb157) (o:=.cells #[.int .i64 ((rd_T44 l0 x4_1).f0),.int .i64 ((rd_T44 l0 x4_1).f1),.int .i64 ((rd_T44 l0 x4_1).f2),.int .i64 ((rd_T44 l0 x4_1).f3)] 44 (0,0)) (by (with_reducible repeat (first | refine dN ?_ _ | refine dD ?_ | refine dA ?_ _));refine blk_put (cs:=#[.int .i64 ((rd_T44 l0 x4_1).f0),.int .i64 ((rd_T44 l0 x4_1).f1),.int .i64 ((rd_T44 l0 x4_1).f2),.int .i64 0]) ?_ 3 _ rfl;(with_reducible repeat (first | refine dN ?_ _ | refine dD ?_ | refine dA ?_ _));refine blk_put (cs:=#[.int .i64 ((rd_T44 l0 x4_1).f0),.int .i64 ((rd_T44 l0 x4_1).f1),.int .i64 0,.int .i64 0]) ?_ 2 _ rfl;(with_reducible repeat (first | refine dN ?_ _ | refine dD ?_ | refine dA ?_ _));refine blk_put (cs:=#[.int .i64 ((rd_T44 l0 x4_1).f0),.int .i64 0,.int .i64 0,.int .i64 0]) ?_ 1 _ rfl;(with_reducible repeat (first | refine dN ?_ _ | refine dD ?_ | refine dA ?_ _));refine blk_put (cs:=#[.int .i64 0,.int .i64 0,.int .i64 0,.int .i64 0]) ?_ 0 _ rfl;(with_reducible repeat (first | refine dN ?_ _ | refine dD ?_ | refine dA ?_ _));exact BK157.out) hb);have n1_:=am (below_step (by repeat (first | (with_reducible first | exact HB.out | apply bA | apply bN | apply bD | refine below_set ?_ GE157.out) | exact HB.out)) hb);clear BK157;clear HB;have BK157:=n0_;have HB:=n1_;clear n0_ n1_;(try clear hb);(try clear hb2);(try clear hk);(try clear hi)))
            have n0_:=am (blk_drew BK157.out);have n1_:=am (below_drew1 HB.out);clear BK157;clear HB;have BK157:=n0_;have HB:=n1_;clear n0_ n1_;refine start_ (n:=37) (S:=fun w' => w'.cell? ⟨gb157,0,none⟩ = some (.int .i64 ((rd_T44 l0 x4_1).f0)) ∧ w'.cell? ⟨gb157,1,none⟩ = some (.int .i64 ((rd_T44 l0 x4_1).f1)) ∧ w'.cell? ⟨gb157,2,none⟩ = some (.int .i64 ((rd_T44 l0 x4_1).f2)) ∧ w'.cell? ⟨gb157,3,none⟩ = some (.int .i64 ((rd_T44 l0 x4_1).f3))) (ds:=[]) m0_7 (by kernel_rfl) rfl rfl ⟨(blk_cell BK157.out 0).trans rfl,(blk_cell BK157.out 1).trans rfl,(blk_cell BK157.out 2).trans rfl,(blk_cell BK157.out 3).trans rfl⟩ (fun hHeld => ?_);refine with_tabW spec_IsJournal.tab7 spec_IsJournal.bits7 (fun HT_ HW_ => ?_)
            generalize w34.drew = w35 at BK157 HB hHeld ⊢
            refine pure_ (i:=0) (N:=some 24) (v:=?_) (a':=?_) m1_7 rfl rfl (any_of HT_.out (by kernel_rfl)) (fun _ _ _ h => h) (Or.inl ⟨by rfl,?_⟩) ?_ ?_;rotate_left;intro w';go_simp;(with_reducible rfl);rotate_left;simp only [Act.put,sA,s0,s1,i64_w,i32_w];rfl
            refine take_ (i:=1) (N:=some 25) (v:=?_) (a':=?_) m2_7 rfl rfl (take_ofW HT_.out HW_.out (by kernel_rfl)) (fun _ _ _ h => h) (Or.inl ⟨by rfl,?_⟩) hHeld ?_ ?_;rotate_left
            ·rintro w' ⟨s0,s1,s2,s3⟩
             go_simp;with_reducible rfl
            rotate_left
            ·simp only [Act.put,sA,s0,s1,i64_w,i32_w];rfl
            refine one_ (i:=2) (N:=some 26) m3_7 rfl rfl (one_of HT_.out (by kernel_rfl)) (by decide) (fun K hK => ?_);refine goes_ Try.func52 (by kernel_rfl) rfl #[.int .i64 ((rd_T44 l0 x4_1).f0),.int .i64 0,.int .i64 10000] (by rfl) rfl rfl (by (try simp only [List.map_toArray,List.map_cons,List.map_nil]);first | done | rfl | (simp only [List.length_drop,List.length_take];rfl)) ?_;with_reducible refine (spec_l1In.calls ((rd_T44 l0 x4_1).f0) 0 10000 true _ A8.out).mono ?_
            rintro e w' ⟨rfl,⟨nd,rfl⟩⟩
            refine ⟨_,rfl,?_⟩;refine hK.out _ _ ⟨(blk_cell BK157.out 0).trans rfl,(blk_cell BK157.out 1).trans rfl,(blk_cell BK157.out 2).trans rfl,(blk_cell BK157.out 3).trans rfl⟩ (fun hHeld => ?_);clear hK K;refine norm_ (a':=?_) ?_ ?_;rotate_left
            ·show Act.put _ (some 26) _ = _
             simp only [Act.put,sA,s0,s1,i64_w,i32_w];rfl
            refine pure_ (i:=3) (N:=some 27) (v:=?_) (a':=?_) m4_7 rfl rfl (any_of HT_.out (by kernel_rfl)) (fun _ _ _ h => h) (Or.inl ⟨by rfl,?_⟩) ?_ ?_;rotate_left;intro w';go_simp;(with_reducible rfl);rotate_left;simp only [Act.put,sA,s0,s1,i64_w,i32_w];rfl
            refine pure_ (i:=4) (N:=some 28) (v:=?_) (a':=?_) m5_7 rfl rfl (any_of HT_.out (by kernel_rfl)) (fun _ _ _ h => h) (Or.inl ⟨by rfl,?_⟩) ?_ ?_;rotate_left;intro w';go_simp;(with_reducible rfl);rotate_left;simp only [Act.put,sA,s0,s1,i64_w,i32_w];rfl
            refine pure_ (i:=5) (N:=some 29) (v:=?_) (a':=?_) m6_7 rfl rfl (any_of HT_.out (by kernel_rfl)) (fun _ _ _ h => h) (Or.inl ⟨by rfl,?_⟩) ?_ ?_;rotate_left;intro w';go_simp;(with_reducible rfl);rotate_left;simp only [Act.put,sA,s0,s1,i64_w,i32_w];rfl
            refine take_ (i:=6) (N:=some 30) (v:=?_) (a':=?_) m7_7 rfl rfl (take_ofW HT_.out HW_.out (by kernel_rfl)) (fun _ _ _ h => h) (Or.inl ⟨by rfl,?_⟩) hHeld ?_ ?_;rotate_left
            ·rintro w' ⟨s0,s1,s2,s3⟩
             go_simp;with_reducible rfl
            rotate_left
            ·simp only [Act.put,sA,s0,s1,i64_w,i32_w];rfl
            refine one_ (i:=7) (N:=some 31) m8_7 rfl rfl (one_of HT_.out (by kernel_rfl)) (by decide) (fun K hK => ?_);refine goes_ Try.func52 (by kernel_rfl) rfl #[.int .i64 ((rd_T44 l0 x4_1).f1),.int .i64 0,.int .i64 63] (by rfl) rfl rfl (by (try simp only [List.map_toArray,List.map_cons,List.map_nil]);first | done | rfl | (simp only [List.length_drop,List.length_take];rfl)) ?_;with_reducible refine (spec_l1In.calls ((rd_T44 l0 x4_1).f1) 0 63 true _ A10.out).mono ?_
            rintro e w' ⟨rfl,⟨nd,rfl⟩⟩
            refine ⟨_,rfl,?_⟩;refine hK.out _ _ ⟨(blk_cell BK157.out 0).trans rfl,(blk_cell BK157.out 1).trans rfl,(blk_cell BK157.out 2).trans rfl,(blk_cell BK157.out 3).trans rfl⟩ (fun hHeld => ?_);clear hK K;refine norm_ (a':=?_) ?_ ?_;rotate_left
            ·show Act.put _ (some 31) _ = _
             simp only [Act.put,sA,s0,s1,i64_w,i32_w];rfl
            refine pure_ (i:=8) (N:=some 32) (v:=?_) (a':=?_) m9_7 rfl rfl (any_of HT_.out (by kernel_rfl)) (fun _ _ _ h => h) (Or.inl ⟨by rfl,?_⟩) ?_ ?_;rotate_left;intro w';go_simp;(with_reducible rfl);rotate_left;simp only [Act.put,sA,s0,s1,i64_w,i32_w];rfl
            refine pure_ (i:=9) (N:=some 33) (v:=?_) (a':=?_) m10_7 rfl rfl (any_of HT_.out (by kernel_rfl)) (fun _ _ _ h => h) (Or.inl ⟨by rfl,?_⟩) ?_ ?_;rotate_left;intro w';go_simp;(with_reducible rfl);rotate_left;simp only [Act.put,sA,s0,s1,i64_w,i32_w];rfl
            refine pure_ (i:=10) (N:=some 34) (v:=?_) (a':=?_) m11_7 rfl rfl (any_of HT_.out (by kernel_rfl)) (fun _ _ _ h => h) (Or.inl ⟨by rfl,?_⟩) ?_ ?_;rotate_left;intro w';go_simp;(with_reducible rfl);rotate_left;simp only [Act.put,sA,s0,s1,i64_w,i32_w];rfl
            refine pure_ (i:=11) (N:=some 35) (v:=?_) (a':=?_) m12_7 rfl rfl (any_of HT_.out (by kernel_rfl)) (fun _ _ _ h => h) (Or.inl ⟨by rfl,?_⟩) ?_ ?_;rotate_left;intro w';go_simp;(with_reducible rfl);rotate_left;simp only [Act.put,sA,s0,s1,i64_w,i32_w];rfl
            refine take_ (i:=12) (N:=some 36) (v:=?_) (a':=?_) m13_7 rfl rfl (take_ofW HT_.out HW_.out (by kernel_rfl)) (fun _ _ _ h => h) (Or.inl ⟨by rfl,?_⟩) hHeld ?_ ?_;rotate_left
            ·rintro w' ⟨s0,s1,s2,s3⟩
             go_simp;with_reducible rfl
            rotate_left
            ·simp only [Act.put,sA,s0,s1,i64_w,i32_w];rfl
            refine one_ (i:=13) (N:=some 37) m14_7 rfl rfl (one_of HT_.out (by kernel_rfl)) (by decide) (fun K hK => ?_);refine goes_ Try.func52 (by kernel_rfl) rfl #[.int .i64 ((rd_T44 l0 x4_1).f2),.int .i64 0,.int .i64 10000] (by rfl) rfl rfl (by (try simp only [List.map_toArray,List.map_cons,List.map_nil]);first | done | rfl | (simp only [List.length_drop,List.length_take];rfl)) ?_;with_reducible refine (spec_l1In.calls ((rd_T44 l0 x4_1).f2) 0 10000 true _ A12.out).mono ?_
            rintro e w' ⟨rfl,⟨nd,rfl⟩⟩
            refine ⟨_,rfl,?_⟩;refine hK.out _ _ ⟨(blk_cell BK157.out 0).trans rfl,(blk_cell BK157.out 1).trans rfl,(blk_cell BK157.out 2).trans rfl,(blk_cell BK157.out 3).trans rfl⟩ (fun hHeld => ?_);clear hK K;refine norm_ (a':=?_) ?_ ?_;rotate_left
            ·show Act.put _ (some 37) _ = _
             simp only [Act.put,sA,s0,s1,i64_w,i32_w];rfl
            refine pure_ (i:=14) (N:=some 38) (v:=?_) (a':=?_) m15_7 rfl rfl (any_of HT_.out (by kernel_rfl)) (fun _ _ _ h => h) (Or.inl ⟨by rfl,?_⟩) ?_ ?_;rotate_left;intro w';go_simp;(with_reducible rfl);rotate_left;simp only [Act.put,sA,s0,s1,i64_w,i32_w];rfl
            refine pure_ (i:=15) (N:=some 39) (v:=?_) (a':=?_) m16_7 rfl rfl (any_of HT_.out (by kernel_rfl)) (fun _ _ _ h => h) (Or.inl ⟨by rfl,?_⟩) ?_ ?_;rotate_left;intro w';go_simp;(with_reducible rfl);rotate_left;simp only [Act.put,sA,s0,s1,i64_w,i32_w];rfl
            refine pure_ (i:=16) (N:=some 40) (v:=?_) (a':=?_) m17_7 rfl rfl (any_of HT_.out (by kernel_rfl)) (fun _ _ _ h => h) (Or.inl ⟨by rfl,?_⟩) ?_ ?_;rotate_left;intro w';go_simp;(with_reducible rfl);rotate_left;simp only [Act.put,sA,s0,s1,i64_w,i32_w];rfl
            refine pure_ (i:=17) (N:=some 41) (v:=?_) (a':=?_) m18_7 rfl rfl (any_of HT_.out (by kernel_rfl)) (fun _ _ _ h => h) (Or.inl ⟨by rfl,?_⟩) ?_ ?_;rotate_left;intro w';go_simp;(with_reducible rfl);rotate_left;simp only [Act.put,sA,s0,s1,i64_w,i32_w];rfl
            refine pure_ (i:=19) (N:=some 43) (v:=?_) (a':=?_) m19_7 rfl rfl (any_of HT_.out (by kernel_rfl)) (fun _ _ _ h => h) (Or.inl ⟨by rfl,?_⟩) ?_ ?_;rotate_left;intro w';go_simp;(with_reducible rfl);rotate_left;simp only [Act.put,sA,s0,s1,i64_w,i32_w];rfl
            refine take_ (i:=18) (N:=some 42) (v:=?_) (a':=?_) m20_7 rfl rfl (take_ofW HT_.out HW_.out (by kernel_rfl)) (fun _ _ _ h => h) (Or.inl ⟨by rfl,?_⟩) hHeld ?_ ?_;rotate_left
            ·rintro w' ⟨s0,s1,s2,s3⟩
             go_simp;with_reducible rfl
            rotate_left
            ·simp only [Act.put,sA,s0,s1,i64_w,i32_w];rfl
            refine pure_ (i:=20) (N:=some 44) (v:=?_) (a':=?_) m21_7 rfl rfl (any_of HT_.out (by kernel_rfl)) (fun _ _ _ h => h) (Or.inl ⟨by rfl,?_⟩) ?_ ?_;rotate_left;intro w';go_simp;(with_reducible rfl);rotate_left;simp only [Act.put,sA,s0,s1,i64_w,i32_w];rfl
            refine pure_ (i:=21) (N:=some 45) (v:=?_) (a':=?_) m22_7 rfl rfl (any_of HT_.out (by kernel_rfl)) (fun _ _ _ h => h) (Or.inl ⟨by rfl,?_⟩) ?_ ?_;rotate_left;intro w';go_simp;(with_reducible rfl);rotate_left;simp only [Act.put,sA,s0,s1,i64_w,i32_w];rfl
            refine pure_ (i:=22) (N:=some 46) (v:=?_) (a':=?_) m23_7 rfl rfl (any_of HT_.out (by kernel_rfl)) (fun _ _ _ h => h) (Or.inl ⟨by rfl,?_⟩) ?_ ?_;rotate_left;intro w';go_simp;(with_reducible rfl);rotate_left;simp only [Act.put,sA,s0,s1,i64_w,i32_w];rfl
            refine pure_ (i:=23) (N:=some 47) (v:=undef) (a':=?_) m24_7 rfl rfl (any_of HT_.out (by kernel_rfl)) (fun _ _ _ h => h) (Or.inr ⟨by rfl,rfl⟩) ?_ ?_;rotate_left
            ·simp only [Act.put,sA,s0,s1,i64_w,i32_w];rfl
            refine pure_ (i:=24) (N:=some 48) (v:=undef) (a':=?_) m25_7 rfl rfl (any_of HT_.out (by kernel_rfl)) (fun _ _ _ h => h) (Or.inr ⟨by rfl,rfl⟩) ?_ ?_;rotate_left
            ·simp only [Act.put,sA,s0,s1,i64_w,i32_w];rfl
            refine pure_ (i:=25) (N:=some 49) (v:=undef) (a':=?_) m26_7 rfl rfl (any_of HT_.out (by kernel_rfl)) (fun _ _ _ h => h) (Or.inr ⟨by rfl,rfl⟩) ?_ ?_;rotate_left
            ·simp only [Act.put,sA,s0,s1,i64_w,i32_w];rfl
            refine pure_ (i:=26) (N:=some 50) (v:=undef) (a':=?_) m27_7 rfl rfl (any_of HT_.out (by kernel_rfl)) (fun _ _ _ h => h) (Or.inr ⟨by rfl,rfl⟩) ?_ ?_;rotate_left
            ·simp only [Act.put,sA,s0,s1,i64_w,i32_w];rfl
            refine pure_ (i:=27) (N:=some 51) (v:=undef) (a':=?_) m28_7 rfl rfl (any_of HT_.out (by kernel_rfl)) (fun _ _ _ h => h) (Or.inr ⟨by rfl,rfl⟩) ?_ ?_;rotate_left
            ·simp only [Act.put,sA,s0,s1,i64_w,i32_w];rfl
            refine pure_ (i:=28) (N:=some 52) (v:=undef) (a':=?_) m29_7 rfl rfl (any_of HT_.out (by kernel_rfl)) (fun _ _ _ h => h) (Or.inr ⟨by rfl,rfl⟩) ?_ ?_;rotate_left
            ·simp only [Act.put,sA,s0,s1,i64_w,i32_w];rfl
            refine pure_ (i:=29) (N:=some 53) (v:=undef) (a':=?_) m30_7 rfl rfl (any_of HT_.out (by kernel_rfl)) (fun _ _ _ h => h) (Or.inr ⟨by rfl,rfl⟩) ?_ ?_;rotate_left
            ·simp only [Act.put,sA,s0,s1,i64_w,i32_w];rfl
            refine pure_ (i:=30) (N:=some 54) (v:=undef) (a':=?_) m31_7 rfl rfl (any_of HT_.out (by kernel_rfl)) (fun _ _ _ h => h) (Or.inr ⟨by rfl,rfl⟩) ?_ ?_;rotate_left
            ·simp only [Act.put,sA,s0,s1,i64_w,i32_w];rfl
            refine pure_ (i:=31) (N:=some 55) (v:=undef) (a':=?_) m38_7 rfl rfl (any_of HT_.out (by kernel_rfl)) (fun _ _ _ h => h) (Or.inr ⟨by rfl,rfl⟩) ?_ ?_;rotate_left
            ·simp only [Act.put,sA,s0,s1,i64_w,i32_w];rfl
            refine pure_ (i:=32) (N:=some 56) (v:=undef) (a':=?_) m33_7 rfl rfl (any_of HT_.out (by kernel_rfl)) (fun _ _ _ h => h) (Or.inr ⟨by rfl,rfl⟩) ?_ ?_;rotate_left
            ·simp only [Act.put,sA,s0,s1,i64_w,i32_w];rfl
            refine pure_ (i:=33) (N:=some 57) (v:=undef) (a':=?_) m34_7 rfl rfl (any_of HT_.out (by kernel_rfl)) (fun _ _ _ h => h) (Or.inr ⟨by rfl,rfl⟩) ?_ ?_;rotate_left
            ·simp only [Act.put,sA,s0,s1,i64_w,i32_w];rfl
            refine pure_ (i:=34) (N:=some 58) (v:=undef) (a':=?_) m35_7 rfl rfl (any_of HT_.out (by kernel_rfl)) (fun _ _ _ h => h) (Or.inr ⟨by rfl,rfl⟩) ?_ ?_;rotate_left
            ·simp only [Act.put,sA,s0,s1,i64_w,i32_w];rfl
            refine pure_ (i:=35) (N:=some 59) (v:=undef) (a':=?_) m36_7 rfl rfl (any_of HT_.out (by kernel_rfl)) (fun _ _ _ h => h) (Or.inr ⟨by rfl,rfl⟩) ?_ ?_;rotate_left
            ·simp only [Act.put,sA,s0,s1,i64_w,i32_w];rfl
            refine pure_ (i:=36) (N:=some 60) (v:=?_) (a':=?_) m37_7 rfl rfl (any_of HT_.out (by kernel_rfl)) (fun _ _ _ h => h) (Or.inl ⟨by rfl,?_⟩) ?_ ?_;rotate_left;intro w';go_simp;(with_reducible rfl);rotate_left;simp only [Act.put,sA,s0,s1,i64_w,i32_w];rfl
            refine done_ (done_of HT_.out (by kernel_rfl)) ?_
            try go_wp2
            go_ret
            exact ⟨by first | rfl | (simp [errW_none,errW_some] <;> rfl) | (simp [*,errW_none,errW_some] <;> rfl),by repeat (first | (with_reducible first | exact HB.out | apply bA | apply bN | apply bD | refine below_set ?_ GE157.out) | exact HB.out)⟩
          ·replace c13:=Bool.eq_false_iff.mpr c13;subst c13;have H1 : (some false) = some r:=by rw [if_neg (show ¬ (false = true) by decide)] at H;exact H
           clear H;have H:=H1;clear H1;obtain rfl:=Option.some.inj H;have p156 : 0 ≤ (x4_1 : Int):=odt (by first | (with_reducible assumption) | assumption);have q156 : x4_1 < (l0.length : Int):=odt (by first | (with_reducible assumption) | assumption);obtain ⟨ad156,e156,hx156_0,hx156_1,hx156_2,hx156_3⟩:=at_T44 HR0.out x4_1 p156 q156
           cases e156
           replace hx156_0:=(ct HB.out hx156_0 :)
           replace hx156_1:=(ct HB.out hx156_1 :)
           replace hx156_2:=(ct HB.out hx156_2 :)
           replace hx156_3:=(ct HB.out hx156_3 :)
           replace p156:=eq_true p156;replace q156:=eq_true q156
           try go_wp2_with (first | ((with_reducible refine gate_dst (N:=5) rfl ?_);(try (refine gate_guard (by rfl) ?_;dsimp only));refine box_event ?hg (N:=5) ?hd (cs:=#[.int .i64 0,.int .i64 0,.int .i64 0,.int .i64 0]) (t:=44) ?hr ?_;(case hd => rfl);(case hg => rfl);(case hr => first | (go_simp;done) | (go_simp;rfl));intro gb157 hg w36 hbox hb;have n0_:=am (below_step (by repeat (first | (with_reducible first | exact HB.out | apply bA | apply bN | apply bD) | exact HB.out)) hb);have n1_:=am (hbox);have n2_:=am ((by rw [hg];exact (below_size (by repeat (first | (with_reducible first | exact HB.out | apply bA | apply bN | apply bD) | exact HB.out))) : w.heap.size ≤ gb157));have n3_:=am ((by rw [hg];exact (below_size (by repeat (first | (with_reducible first | exact HB.out | apply bA | apply bN | apply bD) | exact HB.out))) : w.heap.size ≤ gb157));clear HB;have HB:=n0_;have BK157:=n1_;have GW157:=n2_;have GE157:=n3_;clear n0_ n1_ n2_ n3_;clear hb hbox hg;have hcz37_0 : w36.cell? ⟨gb157,0,none⟩ = some (.int .i64 0):=(blk_cell BK157.out 0).trans rfl;have hcz37_1 : w36.cell? ⟨gb157,1,none⟩ = some (.int .i64 0):=(blk_cell BK157.out 1).trans rfl;have hcz37_2 : w36.cell? ⟨gb157,2,none⟩ = some (.int .i64 0):=(blk_cell BK157.out 2).trans rfl;have hcz37_3 : w36.cell? ⟨gb157,3,none⟩ = some (.int .i64 0):=(blk_cell BK157.out 3).trans rfl;have hfz37_0:=blk_frozen BK157.out 0;have hfz37_1:=blk_frozen BK157.out 1;have hfz37_2:=blk_frozen BK157.out 2;have hfz37_3:=blk_frozen BK157.out 3) | ((with_reducible refine gate_callee (f:=51) rfl ?_);refine goesL_ (some 23) rfl rfl Try.func51 (by kernel_rfl) rfl #[.int .i64 x3_1,.agg #[.int .i64 ((rd_T44 l0 x4_1).f0),.int .i64 ((rd_T44 l0 x4_1).f1),.int .i64 ((rd_T44 l0 x4_1).f2),.int .i64 ((rd_T44 l0 x4_1).f3)]] rfl (by (try simp only [List.map_toArray,List.map_cons,List.map_nil]);first | done | rfl | (simp only [List.length_drop,List.length_take];rfl)) ?_;(with_reducible refine (spec_l21Seal.calls kj1 x3_1 ((rd_T44 l0 x4_1).f0) ((rd_T44 l0 x4_1).f1) ((rd_T44 l0 x4_1).f2) ((rd_T44 l0 x4_1).f3) t158 _ A7.out).mono ?_);rintro e w38 ⟨rfl,hb⟩;refine ⟨_,rfl,?_⟩;have n0_:=am (blk_below (g:=gb157) (o:=.cells #[.int .i64 ((rd_T44 l0 x4_1).f0),.int .i64 ((rd_T44 l0 x4_1).f1),.int .i64 ((rd_T44 l0 x4_1).f2),.int .i64 ((rd_T44 l0 x4_1).f3)] 44 (0,0)) (by (with_reducible repeat (first | refine dN ?_ _ | refine dD ?_ | refine dA ?_ _));refine blk_put (cs:=#[.int .i64 ((rd_T44 l0 x4_1).f0),.int .i64 ((rd_T44 l0 x4_1).f1),.int .i64 ((rd_T44 l0 x4_1).f2),.int .i64 0]) ?_ 3 _ rfl;(with_reducible repeat (first | refine dN ?_ _ | refine dD ?_ | refine dA ?_ _));refine blk_put (cs:=#[.int .i64 ((rd_T44 l0 x4_1).f0),.int .i64 ((rd_T44 l0 x4_1).f1),.int .i64 0,.int .i64 0]) ?_ 2 _ rfl;(with_reducible repeat (first | refine dN ?_ _ | refine dD ?_ | refine dA ?_ _));refine blk_put (cs:=#[.int .i64 ((rd_T44 l0 x4_1).f0),.int .i64 0,.int .i64 0,.int .i64 0]) ?_ 1 _ rfl;(with_reducible repeat (first | refine dN ?_ _ | refine dD ?_ | refine dA ?_ _));refine blk_put (cs:=#[.int .i64 0,.int .i64 0,.int .i64 0,.int .i64 0]) ?_ 0 _ rfl;(with_reducible repeat (first | refine dN ?_ _ | refine dD ?_ | refine dA ?_ _));exact BK157.out) hb);have n1_:=am (below_step (by repeat (first | (with_reducible first | exact HB.out | apply bA | apply bN | apply bD | refine below_set ?_ GE157.out) | exact HB.out)) hb);clear BK157;clear HB;have BK157:=n0_;have HB:=n1_;clear n0_ n1_;(try clear hb);(try clear hb2);(try clear hk);(try clear hi)))
           have n0_:=am (blk_drew BK157.out);have n1_:=am (below_drew1 HB.out);clear BK157;clear HB;have BK157:=n0_;have HB:=n1_;clear n0_ n1_;refine start_ (n:=37) (S:=fun w' => w'.cell? ⟨gb157,0,none⟩ = some (.int .i64 ((rd_T44 l0 x4_1).f0)) ∧ w'.cell? ⟨gb157,1,none⟩ = some (.int .i64 ((rd_T44 l0 x4_1).f1)) ∧ w'.cell? ⟨gb157,2,none⟩ = some (.int .i64 ((rd_T44 l0 x4_1).f2)) ∧ w'.cell? ⟨gb157,3,none⟩ = some (.int .i64 ((rd_T44 l0 x4_1).f3))) (ds:=[]) m0_7 (by kernel_rfl) rfl rfl ⟨(blk_cell BK157.out 0).trans rfl,(blk_cell BK157.out 1).trans rfl,(blk_cell BK157.out 2).trans rfl,(blk_cell BK157.out 3).trans rfl⟩ (fun hHeld => ?_);refine with_tabW spec_IsJournal.tab7 spec_IsJournal.bits7 (fun HT_ HW_ => ?_)
           generalize w38.drew = w39 at BK157 HB hHeld ⊢
           refine pure_ (i:=0) (N:=some 24) (v:=?_) (a':=?_) m1_7 rfl rfl (any_of HT_.out (by kernel_rfl)) (fun _ _ _ h => h) (Or.inl ⟨by rfl,?_⟩) ?_ ?_;rotate_left;intro w';go_simp;(with_reducible rfl);rotate_left;simp only [Act.put,sA,s0,s1,i64_w,i32_w];rfl
           refine take_ (i:=1) (N:=some 25) (v:=?_) (a':=?_) m2_7 rfl rfl (take_ofW HT_.out HW_.out (by kernel_rfl)) (fun _ _ _ h => h) (Or.inl ⟨by rfl,?_⟩) hHeld ?_ ?_;rotate_left
           ·rintro w' ⟨s0,s1,s2,s3⟩
            go_simp;with_reducible rfl
           rotate_left
           ·simp only [Act.put,sA,s0,s1,i64_w,i32_w];rfl
           refine one_ (i:=2) (N:=some 26) m3_7 rfl rfl (one_of HT_.out (by kernel_rfl)) (by decide) (fun K hK => ?_);refine goes_ Try.func52 (by kernel_rfl) rfl #[.int .i64 ((rd_T44 l0 x4_1).f0),.int .i64 0,.int .i64 10000] (by rfl) rfl rfl (by (try simp only [List.map_toArray,List.map_cons,List.map_nil]);first | done | rfl | (simp only [List.length_drop,List.length_take];rfl)) ?_;with_reducible refine (spec_l1In.calls ((rd_T44 l0 x4_1).f0) 0 10000 true _ A8.out).mono ?_
           rintro e w' ⟨rfl,⟨nd,rfl⟩⟩
           refine ⟨_,rfl,?_⟩;refine hK.out _ _ ⟨(blk_cell BK157.out 0).trans rfl,(blk_cell BK157.out 1).trans rfl,(blk_cell BK157.out 2).trans rfl,(blk_cell BK157.out 3).trans rfl⟩ (fun hHeld => ?_);clear hK K;refine norm_ (a':=?_) ?_ ?_;rotate_left
           ·show Act.put _ (some 26) _ = _
            simp only [Act.put,sA,s0,s1,i64_w,i32_w];rfl
           refine pure_ (i:=3) (N:=some 27) (v:=?_) (a':=?_) m4_7 rfl rfl (any_of HT_.out (by kernel_rfl)) (fun _ _ _ h => h) (Or.inl ⟨by rfl,?_⟩) ?_ ?_;rotate_left;intro w';go_simp;(with_reducible rfl);rotate_left;simp only [Act.put,sA,s0,s1,i64_w,i32_w];rfl
           refine pure_ (i:=4) (N:=some 28) (v:=?_) (a':=?_) m5_7 rfl rfl (any_of HT_.out (by kernel_rfl)) (fun _ _ _ h => h) (Or.inl ⟨by rfl,?_⟩) ?_ ?_;rotate_left;intro w';go_simp;(with_reducible rfl);rotate_left;simp only [Act.put,sA,s0,s1,i64_w,i32_w];rfl
           refine pure_ (i:=5) (N:=some 29) (v:=?_) (a':=?_) m6_7 rfl rfl (any_of HT_.out (by kernel_rfl)) (fun _ _ _ h => h) (Or.inl ⟨by rfl,?_⟩) ?_ ?_;rotate_left;intro w';go_simp;(with_reducible rfl);rotate_left;simp only [Act.put,sA,s0,s1,i64_w,i32_w];rfl
           refine take_ (i:=6) (N:=some 30) (v:=?_) (a':=?_) m7_7 rfl rfl (take_ofW HT_.out HW_.out (by kernel_rfl)) (fun _ _ _ h => h) (Or.inl ⟨by rfl,?_⟩) hHeld ?_ ?_;rotate_left
           ·rintro w' ⟨s0,s1,s2,s3⟩
            go_simp;with_reducible rfl
           rotate_left
           ·simp only [Act.put,sA,s0,s1,i64_w,i32_w];rfl
           refine one_ (i:=7) (N:=some 31) m8_7 rfl rfl (one_of HT_.out (by kernel_rfl)) (by decide) (fun K hK => ?_);refine goes_ Try.func52 (by kernel_rfl) rfl #[.int .i64 ((rd_T44 l0 x4_1).f1),.int .i64 0,.int .i64 63] (by rfl) rfl rfl (by (try simp only [List.map_toArray,List.map_cons,List.map_nil]);first | done | rfl | (simp only [List.length_drop,List.length_take];rfl)) ?_;with_reducible refine (spec_l1In.calls ((rd_T44 l0 x4_1).f1) 0 63 true _ A10.out).mono ?_
           rintro e w' ⟨rfl,⟨nd,rfl⟩⟩
           refine ⟨_,rfl,?_⟩;refine hK.out _ _ ⟨(blk_cell BK157.out 0).trans rfl,(blk_cell BK157.out 1).trans rfl,(blk_cell BK157.out 2).trans rfl,(blk_cell BK157.out 3).trans rfl⟩ (fun hHeld => ?_);clear hK K;refine norm_ (a':=?_) ?_ ?_;rotate_left
           ·show Act.put _ (some 31) _ = _
            simp only [Act.put,sA,s0,s1,i64_w,i32_w];rfl
           refine pure_ (i:=8) (N:=some 32) (v:=?_) (a':=?_) m9_7 rfl rfl (any_of HT_.out (by kernel_rfl)) (fun _ _ _ h => h) (Or.inl ⟨by rfl,?_⟩) ?_ ?_;rotate_left;intro w';go_simp;(with_reducible rfl);rotate_left;simp only [Act.put,sA,s0,s1,i64_w,i32_w];rfl
           refine pure_ (i:=9) (N:=some 33) (v:=?_) (a':=?_) m10_7 rfl rfl (any_of HT_.out (by kernel_rfl)) (fun _ _ _ h => h) (Or.inl ⟨by rfl,?_⟩) ?_ ?_;rotate_left;intro w';go_simp;(with_reducible rfl);rotate_left;simp only [Act.put,sA,s0,s1,i64_w,i32_w];rfl
           refine pure_ (i:=10) (N:=some 34) (v:=?_) (a':=?_) m11_7 rfl rfl (any_of HT_.out (by kernel_rfl)) (fun _ _ _ h => h) (Or.inl ⟨by rfl,?_⟩) ?_ ?_;rotate_left;intro w';go_simp;(with_reducible rfl);rotate_left;simp only [Act.put,sA,s0,s1,i64_w,i32_w];rfl
           refine pure_ (i:=11) (N:=some 35) (v:=?_) (a':=?_) m12_7 rfl rfl (any_of HT_.out (by kernel_rfl)) (fun _ _ _ h => h) (Or.inl ⟨by rfl,?_⟩) ?_ ?_;rotate_left;intro w';go_simp;(with_reducible rfl);rotate_left;simp only [Act.put,sA,s0,s1,i64_w,i32_w];rfl
           refine take_ (i:=12) (N:=some 36) (v:=?_) (a':=?_) m13_7 rfl rfl (take_ofW HT_.out HW_.out (by kernel_rfl)) (fun _ _ _ h => h) (Or.inl ⟨by rfl,?_⟩) hHeld ?_ ?_;rotate_left
           ·rintro w' ⟨s0,s1,s2,s3⟩
            go_simp;with_reducible rfl
           rotate_left
           ·simp only [Act.put,sA,s0,s1,i64_w,i32_w];rfl
           refine one_ (i:=13) (N:=some 37) m14_7 rfl rfl (one_of HT_.out (by kernel_rfl)) (by decide) (fun K hK => ?_);refine goes_ Try.func52 (by kernel_rfl) rfl #[.int .i64 ((rd_T44 l0 x4_1).f2),.int .i64 0,.int .i64 10000] (by rfl) rfl rfl (by (try simp only [List.map_toArray,List.map_cons,List.map_nil]);first | done | rfl | (simp only [List.length_drop,List.length_take];rfl)) ?_;with_reducible refine (spec_l1In.calls ((rd_T44 l0 x4_1).f2) 0 10000 false _ A12.out).mono ?_
           rintro e w' ⟨rfl,⟨nd,rfl⟩⟩
           refine ⟨_,rfl,?_⟩;refine hK.out _ _ ⟨(blk_cell BK157.out 0).trans rfl,(blk_cell BK157.out 1).trans rfl,(blk_cell BK157.out 2).trans rfl,(blk_cell BK157.out 3).trans rfl⟩ (fun hHeld => ?_);clear hK K;refine norm_ (a':=?_) ?_ ?_;rotate_left
           ·show Act.put _ (some 37) _ = _
            simp only [Act.put,sA,s0,s1,i64_w,i32_w];rfl
           refine pure_ (i:=14) (N:=some 38) (v:=?_) (a':=?_) m15_7 rfl rfl (any_of HT_.out (by kernel_rfl)) (fun _ _ _ h => h) (Or.inl ⟨by rfl,?_⟩) ?_ ?_;rotate_left;intro w';go_simp;(with_reducible rfl);rotate_left;simp only [Act.put,sA,s0,s1,i64_w,i32_w];rfl
           refine pure_ (i:=15) (N:=some 39) (v:=?_) (a':=?_) m16_7 rfl rfl (any_of HT_.out (by kernel_rfl)) (fun _ _ _ h => h) (Or.inl ⟨by rfl,?_⟩) ?_ ?_;rotate_left;intro w';go_simp;(with_reducible rfl);rotate_left;simp only [Act.put,sA,s0,s1,i64_w,i32_w];rfl
           refine pure_ (i:=16) (N:=some 40) (v:=?_) (a':=?_) m17_7 rfl rfl (any_of HT_.out (by kernel_rfl)) (fun _ _ _ h => h) (Or.inl ⟨by rfl,?_⟩) ?_ ?_;rotate_left;intro w';go_simp;(with_reducible rfl);rotate_left;simp only [Act.put,sA,s0,s1,i64_w,i32_w];rfl
           refine pure_ (i:=17) (N:=some 41) (v:=undef) (a':=?_) m18_7 rfl rfl (any_of HT_.out (by kernel_rfl)) (fun _ _ _ h => h) (Or.inr ⟨by rfl,rfl⟩) ?_ ?_;rotate_left
           ·simp only [Act.put,sA,s0,s1,i64_w,i32_w];rfl
           refine pure_ (i:=18) (N:=some 42) (v:=undef) (a':=?_) m39_7 rfl rfl (any_of HT_.out (by kernel_rfl)) (fun _ _ _ h => h) (Or.inr ⟨by rfl,rfl⟩) ?_ ?_;rotate_left
           ·simp only [Act.put,sA,s0,s1,i64_w,i32_w];rfl
           refine pure_ (i:=19) (N:=some 43) (v:=undef) (a':=?_) m20_7 rfl rfl (any_of HT_.out (by kernel_rfl)) (fun _ _ _ h => h) (Or.inr ⟨by rfl,rfl⟩) ?_ ?_;rotate_left
           ·simp only [Act.put,sA,s0,s1,i64_w,i32_w];rfl
           refine pure_ (i:=20) (N:=some 44) (v:=undef) (a':=?_) m21_7 rfl rfl (any_of HT_.out (by kernel_rfl)) (fun _ _ _ h => h) (Or.inr ⟨by rfl,rfl⟩) ?_ ?_;rotate_left
           ·simp only [Act.put,sA,s0,s1,i64_w,i32_w];rfl
           refine pure_ (i:=21) (N:=some 45) (v:=?_) (a':=?_) m22_7 rfl rfl (any_of HT_.out (by kernel_rfl)) (fun _ _ _ h => h) (Or.inl ⟨by rfl,?_⟩) ?_ ?_;rotate_left;intro w';go_simp;(with_reducible rfl);rotate_left;simp only [Act.put,sA,s0,s1,i64_w,i32_w];rfl
           refine pure_ (i:=22) (N:=some 46) (v:=?_) (a':=?_) m23_7 rfl rfl (any_of HT_.out (by kernel_rfl)) (fun _ _ _ h => h) (Or.inl ⟨by rfl,?_⟩) ?_ ?_;rotate_left;intro w';go_simp;(with_reducible rfl);rotate_left;simp only [Act.put,sA,s0,s1,i64_w,i32_w];rfl
           refine pure_ (i:=23) (N:=some 47) (v:=undef) (a':=?_) m24_7 rfl rfl (any_of HT_.out (by kernel_rfl)) (fun _ _ _ h => h) (Or.inr ⟨by rfl,rfl⟩) ?_ ?_;rotate_left
           ·simp only [Act.put,sA,s0,s1,i64_w,i32_w];rfl
           refine pure_ (i:=24) (N:=some 48) (v:=undef) (a':=?_) m25_7 rfl rfl (any_of HT_.out (by kernel_rfl)) (fun _ _ _ h => h) (Or.inr ⟨by rfl,rfl⟩) ?_ ?_;rotate_left
           ·simp only [Act.put,sA,s0,s1,i64_w,i32_w];rfl
           refine pure_ (i:=25) (N:=some 49) (v:=undef) (a':=?_) m26_7 rfl rfl (any_of HT_.out (by kernel_rfl)) (fun _ _ _ h => h) (Or.inr ⟨by rfl,rfl⟩) ?_ ?_;rotate_left
           ·simp only [Act.put,sA,s0,s1,i64_w,i32_w];rfl
           refine pure_ (i:=26) (N:=some 50) (v:=undef) (a':=?_) m27_7 rfl rfl (any_of HT_.out (by kernel_rfl)) (fun _ _ _ h => h) (Or.inr ⟨by rfl,rfl⟩) ?_ ?_;rotate_left
           ·simp only [Act.put,sA,s0,s1,i64_w,i32_w];rfl
           refine pure_ (i:=27) (N:=some 51) (v:=undef) (a':=?_) m28_7 rfl rfl (any_of HT_.out (by kernel_rfl)) (fun _ _ _ h => h) (Or.inr ⟨by rfl,rfl⟩) ?_ ?_;rotate_left
           ·simp only [Act.put,sA,s0,s1,i64_w,i32_w];rfl
           refine pure_ (i:=28) (N:=some 52) (v:=undef) (a':=?_) m29_7 rfl rfl (any_of HT_.out (by kernel_rfl)) (fun _ _ _ h => h) (Or.inr ⟨by rfl,rfl⟩) ?_ ?_;rotate_left
           ·simp only [Act.put,sA,s0,s1,i64_w,i32_w];rfl
           refine pure_ (i:=29) (N:=some 53) (v:=undef) (a':=?_) m30_7 rfl rfl (any_of HT_.out (by kernel_rfl)) (fun _ _ _ h => h) (Or.inr ⟨by rfl,rfl⟩) ?_ ?_;rotate_left
           ·simp only [Act.put,sA,s0,s1,i64_w,i32_w];rfl
           refine pure_ (i:=30) (N:=some 54) (v:=undef) (a':=?_) m31_7 rfl rfl (any_of HT_.out (by kernel_rfl)) (fun _ _ _ h => h) (Or.inr ⟨by rfl,rfl⟩) ?_ ?_;rotate_left
           ·simp only [Act.put,sA,s0,s1,i64_w,i32_w];rfl
           refine pure_ (i:=31) (N:=some 55) (v:=undef) (a':=?_) m38_7 rfl rfl (any_of HT_.out (by kernel_rfl)) (fun _ _ _ h => h) (Or.inr ⟨by rfl,rfl⟩) ?_ ?_;rotate_left
           ·simp only [Act.put,sA,s0,s1,i64_w,i32_w];rfl
           refine pure_ (i:=32) (N:=some 56) (v:=undef) (a':=?_) m33_7 rfl rfl (any_of HT_.out (by kernel_rfl)) (fun _ _ _ h => h) (Or.inr ⟨by rfl,rfl⟩) ?_ ?_;rotate_left
           ·simp only [Act.put,sA,s0,s1,i64_w,i32_w];rfl
           refine pure_ (i:=33) (N:=some 57) (v:=undef) (a':=?_) m34_7 rfl rfl (any_of HT_.out (by kernel_rfl)) (fun _ _ _ h => h) (Or.inr ⟨by rfl,rfl⟩) ?_ ?_;rotate_left
           ·simp only [Act.put,sA,s0,s1,i64_w,i32_w];rfl
           refine pure_ (i:=34) (N:=some 58) (v:=undef) (a':=?_) m35_7 rfl rfl (any_of HT_.out (by kernel_rfl)) (fun _ _ _ h => h) (Or.inr ⟨by rfl,rfl⟩) ?_ ?_;rotate_left
           ·simp only [Act.put,sA,s0,s1,i64_w,i32_w];rfl
           refine pure_ (i:=35) (N:=some 59) (v:=undef) (a':=?_) m36_7 rfl rfl (any_of HT_.out (by kernel_rfl)) (fun _ _ _ h => h) (Or.inr ⟨by rfl,rfl⟩) ?_ ?_;rotate_left
           ·simp only [Act.put,sA,s0,s1,i64_w,i32_w];rfl
           refine pure_ (i:=36) (N:=some 60) (v:=?_) (a':=?_) m37_7 rfl rfl (any_of HT_.out (by kernel_rfl)) (fun _ _ _ h => h) (Or.inl ⟨by rfl,?_⟩) ?_ ?_;rotate_left;intro w';go_simp;(with_reducible rfl);rotate_left;simp only [Act.put,sA,s0,s1,i64_w,i32_w];rfl
           refine done_ (done_of HT_.out (by kernel_rfl)) ?_
           try go_wp2
           go_ret
           exact ⟨by first | rfl | (simp [errW_none,errW_some] <;> rfl) | (simp [*,errW_none,errW_some] <;> rfl),by repeat (first | (with_reducible first | exact HB.out | apply bA | apply bN | apply bD | refine below_set ?_ GE157.out) | exact HB.out)⟩
         ·replace c11:=Bool.eq_false_iff.mpr c11;subst c11;have H1 : (some false) = some r:=by rw [if_neg (show ¬ (false = true) by decide)] at H;exact H
          clear H;have H:=H1;clear H1;obtain rfl:=Option.some.inj H;have p156 : 0 ≤ (x4_1 : Int):=odt (by first | (with_reducible assumption) | assumption);have q156 : x4_1 < (l0.length : Int):=odt (by first | (with_reducible assumption) | assumption);obtain ⟨ad156,e156,hx156_0,hx156_1,hx156_2,hx156_3⟩:=at_T44 HR0.out x4_1 p156 q156
          cases e156
          replace hx156_0:=(ct HB.out hx156_0 :)
          replace hx156_1:=(ct HB.out hx156_1 :)
          replace hx156_2:=(ct HB.out hx156_2 :)
          replace hx156_3:=(ct HB.out hx156_3 :)
          replace p156:=eq_true p156;replace q156:=eq_true q156
          try go_wp2_with (first | ((with_reducible refine gate_dst (N:=5) rfl ?_);(try (refine gate_guard (by rfl) ?_;dsimp only));refine box_event ?hg (N:=5) ?hd (cs:=#[.int .i64 0,.int .i64 0,.int .i64 0,.int .i64 0]) (t:=44) ?hr ?_;(case hd => rfl);(case hg => rfl);(case hr => first | (go_simp;done) | (go_simp;rfl));intro gb157 hg w40 hbox hb;have n0_:=am (below_step (by repeat (first | (with_reducible first | exact HB.out | apply bA | apply bN | apply bD) | exact HB.out)) hb);have n1_:=am (hbox);have n2_:=am ((by rw [hg];exact (below_size (by repeat (first | (with_reducible first | exact HB.out | apply bA | apply bN | apply bD) | exact HB.out))) : w.heap.size ≤ gb157));have n3_:=am ((by rw [hg];exact (below_size (by repeat (first | (with_reducible first | exact HB.out | apply bA | apply bN | apply bD) | exact HB.out))) : w.heap.size ≤ gb157));clear HB;have HB:=n0_;have BK157:=n1_;have GW157:=n2_;have GE157:=n3_;clear n0_ n1_ n2_ n3_;clear hb hbox hg;have hcz41_0 : w40.cell? ⟨gb157,0,none⟩ = some (.int .i64 0):=(blk_cell BK157.out 0).trans rfl;have hcz41_1 : w40.cell? ⟨gb157,1,none⟩ = some (.int .i64 0):=(blk_cell BK157.out 1).trans rfl;have hcz41_2 : w40.cell? ⟨gb157,2,none⟩ = some (.int .i64 0):=(blk_cell BK157.out 2).trans rfl;have hcz41_3 : w40.cell? ⟨gb157,3,none⟩ = some (.int .i64 0):=(blk_cell BK157.out 3).trans rfl;have hfz41_0:=blk_frozen BK157.out 0;have hfz41_1:=blk_frozen BK157.out 1;have hfz41_2:=blk_frozen BK157.out 2;have hfz41_3:=blk_frozen BK157.out 3) | ((with_reducible refine gate_callee (f:=51) rfl ?_);refine goesL_ (some 23) rfl rfl Try.func51 (by kernel_rfl) rfl #[.int .i64 x3_1,.agg #[.int .i64 ((rd_T44 l0 x4_1).f0),.int .i64 ((rd_T44 l0 x4_1).f1),.int .i64 ((rd_T44 l0 x4_1).f2),.int .i64 ((rd_T44 l0 x4_1).f3)]] rfl (by (try simp only [List.map_toArray,List.map_cons,List.map_nil]);first | done | rfl | (simp only [List.length_drop,List.length_take];rfl)) ?_;(with_reducible refine (spec_l21Seal.calls kj1 x3_1 ((rd_T44 l0 x4_1).f0) ((rd_T44 l0 x4_1).f1) ((rd_T44 l0 x4_1).f2) ((rd_T44 l0 x4_1).f3) t158 _ A7.out).mono ?_);rintro e w42 ⟨rfl,hb⟩;refine ⟨_,rfl,?_⟩;have n0_:=am (blk_below (g:=gb157) (o:=.cells #[.int .i64 ((rd_T44 l0 x4_1).f0),.int .i64 ((rd_T44 l0 x4_1).f1),.int .i64 ((rd_T44 l0 x4_1).f2),.int .i64 ((rd_T44 l0 x4_1).f3)] 44 (0,0)) (by (with_reducible repeat (first | refine dN ?_ _ | refine dD ?_ | refine dA ?_ _));refine blk_put (cs:=#[.int .i64 ((rd_T44 l0 x4_1).f0),.int .i64 ((rd_T44 l0 x4_1).f1),.int .i64 ((rd_T44 l0 x4_1).f2),.int .i64 0]) ?_ 3 _ rfl;(with_reducible repeat (first | refine dN ?_ _ | refine dD ?_ | refine dA ?_ _));refine blk_put (cs:=#[.int .i64 ((rd_T44 l0 x4_1).f0),.int .i64 ((rd_T44 l0 x4_1).f1),.int .i64 0,.int .i64 0]) ?_ 2 _ rfl;(with_reducible repeat (first | refine dN ?_ _ | refine dD ?_ | refine dA ?_ _));refine blk_put (cs:=#[.int .i64 ((rd_T44 l0 x4_1).f0),.int .i64 0,.int .i64 0,.int .i64 0]) ?_ 1 _ rfl;(with_reducible repeat (first | refine dN ?_ _ | refine dD ?_ | refine dA ?_ _));refine blk_put (cs:=#[.int .i64 0,.int .i64 0,.int .i64 0,.int .i64 0]) ?_ 0 _ rfl;(with_reducible repeat (first | refine dN ?_ _ | refine dD ?_ | refine dA ?_ _));exact BK157.out) hb);have n1_:=am (below_step (by repeat (first | (with_reducible first | exact HB.out | apply bA | apply bN | apply bD | refine below_set ?_ GE157.out) | exact HB.out)) hb);clear BK157;clear HB;have BK157:=n0_;have HB:=n1_;clear n0_ n1_;(try clear hb);(try clear hb2);(try clear hk);(try clear hi)))
          have n0_:=am (blk_drew BK157.out);have n1_:=am (below_drew1 HB.out);clear BK157;clear HB;have BK157:=n0_;have HB:=n1_;clear n0_ n1_;refine start_ (n:=37) (S:=fun w' => w'.cell? ⟨gb157,0,none⟩ = some (.int .i64 ((rd_T44 l0 x4_1).f0)) ∧ w'.cell? ⟨gb157,1,none⟩ = some (.int .i64 ((rd_T44 l0 x4_1).f1)) ∧ w'.cell? ⟨gb157,2,none⟩ = some (.int .i64 ((rd_T44 l0 x4_1).f2)) ∧ w'.cell? ⟨gb157,3,none⟩ = some (.int .i64 ((rd_T44 l0 x4_1).f3))) (ds:=[]) m0_7 (by kernel_rfl) rfl rfl ⟨(blk_cell BK157.out 0).trans rfl,(blk_cell BK157.out 1).trans rfl,(blk_cell BK157.out 2).trans rfl,(blk_cell BK157.out 3).trans rfl⟩ (fun hHeld => ?_);refine with_tabW spec_IsJournal.tab7 spec_IsJournal.bits7 (fun HT_ HW_ => ?_)
          generalize w42.drew = w43 at BK157 HB hHeld ⊢
          refine pure_ (i:=0) (N:=some 24) (v:=?_) (a':=?_) m1_7 rfl rfl (any_of HT_.out (by kernel_rfl)) (fun _ _ _ h => h) (Or.inl ⟨by rfl,?_⟩) ?_ ?_;rotate_left;intro w';go_simp;(with_reducible rfl);rotate_left;simp only [Act.put,sA,s0,s1,i64_w,i32_w];rfl
          refine take_ (i:=1) (N:=some 25) (v:=?_) (a':=?_) m2_7 rfl rfl (take_ofW HT_.out HW_.out (by kernel_rfl)) (fun _ _ _ h => h) (Or.inl ⟨by rfl,?_⟩) hHeld ?_ ?_;rotate_left
          ·rintro w' ⟨s0,s1,s2,s3⟩
           go_simp;with_reducible rfl
          rotate_left
          ·simp only [Act.put,sA,s0,s1,i64_w,i32_w];rfl
          refine one_ (i:=2) (N:=some 26) m3_7 rfl rfl (one_of HT_.out (by kernel_rfl)) (by decide) (fun K hK => ?_);refine goes_ Try.func52 (by kernel_rfl) rfl #[.int .i64 ((rd_T44 l0 x4_1).f0),.int .i64 0,.int .i64 10000] (by rfl) rfl rfl (by (try simp only [List.map_toArray,List.map_cons,List.map_nil]);first | done | rfl | (simp only [List.length_drop,List.length_take];rfl)) ?_;with_reducible refine (spec_l1In.calls ((rd_T44 l0 x4_1).f0) 0 10000 true _ A8.out).mono ?_
          rintro e w' ⟨rfl,⟨nd,rfl⟩⟩
          refine ⟨_,rfl,?_⟩;refine hK.out _ _ ⟨(blk_cell BK157.out 0).trans rfl,(blk_cell BK157.out 1).trans rfl,(blk_cell BK157.out 2).trans rfl,(blk_cell BK157.out 3).trans rfl⟩ (fun hHeld => ?_);clear hK K;refine norm_ (a':=?_) ?_ ?_;rotate_left
          ·show Act.put _ (some 26) _ = _
           simp only [Act.put,sA,s0,s1,i64_w,i32_w];rfl
          refine pure_ (i:=3) (N:=some 27) (v:=?_) (a':=?_) m4_7 rfl rfl (any_of HT_.out (by kernel_rfl)) (fun _ _ _ h => h) (Or.inl ⟨by rfl,?_⟩) ?_ ?_;rotate_left;intro w';go_simp;(with_reducible rfl);rotate_left;simp only [Act.put,sA,s0,s1,i64_w,i32_w];rfl
          refine pure_ (i:=4) (N:=some 28) (v:=?_) (a':=?_) m5_7 rfl rfl (any_of HT_.out (by kernel_rfl)) (fun _ _ _ h => h) (Or.inl ⟨by rfl,?_⟩) ?_ ?_;rotate_left;intro w';go_simp;(with_reducible rfl);rotate_left;simp only [Act.put,sA,s0,s1,i64_w,i32_w];rfl
          refine pure_ (i:=5) (N:=some 29) (v:=?_) (a':=?_) m6_7 rfl rfl (any_of HT_.out (by kernel_rfl)) (fun _ _ _ h => h) (Or.inl ⟨by rfl,?_⟩) ?_ ?_;rotate_left;intro w';go_simp;(with_reducible rfl);rotate_left;simp only [Act.put,sA,s0,s1,i64_w,i32_w];rfl
          refine take_ (i:=6) (N:=some 30) (v:=?_) (a':=?_) m7_7 rfl rfl (take_ofW HT_.out HW_.out (by kernel_rfl)) (fun _ _ _ h => h) (Or.inl ⟨by rfl,?_⟩) hHeld ?_ ?_;rotate_left
          ·rintro w' ⟨s0,s1,s2,s3⟩
           go_simp;with_reducible rfl
          rotate_left
          ·simp only [Act.put,sA,s0,s1,i64_w,i32_w];rfl
          refine one_ (i:=7) (N:=some 31) m8_7 rfl rfl (one_of HT_.out (by kernel_rfl)) (by decide) (fun K hK => ?_);refine goes_ Try.func52 (by kernel_rfl) rfl #[.int .i64 ((rd_T44 l0 x4_1).f1),.int .i64 0,.int .i64 63] (by rfl) rfl rfl (by (try simp only [List.map_toArray,List.map_cons,List.map_nil]);first | done | rfl | (simp only [List.length_drop,List.length_take];rfl)) ?_;with_reducible refine (spec_l1In.calls ((rd_T44 l0 x4_1).f1) 0 63 false _ A10.out).mono ?_
          rintro e w' ⟨rfl,⟨nd,rfl⟩⟩
          refine ⟨_,rfl,?_⟩;refine hK.out _ _ ⟨(blk_cell BK157.out 0).trans rfl,(blk_cell BK157.out 1).trans rfl,(blk_cell BK157.out 2).trans rfl,(blk_cell BK157.out 3).trans rfl⟩ (fun hHeld => ?_);clear hK K;refine norm_ (a':=?_) ?_ ?_;rotate_left
          ·show Act.put _ (some 31) _ = _
           simp only [Act.put,sA,s0,s1,i64_w,i32_w];rfl
          refine pure_ (i:=8) (N:=some 32) (v:=?_) (a':=?_) m9_7 rfl rfl (any_of HT_.out (by kernel_rfl)) (fun _ _ _ h => h) (Or.inl ⟨by rfl,?_⟩) ?_ ?_;rotate_left;intro w';go_simp;(with_reducible rfl);rotate_left;simp only [Act.put,sA,s0,s1,i64_w,i32_w];rfl
          refine pure_ (i:=9) (N:=some 33) (v:=?_) (a':=?_) m10_7 rfl rfl (any_of HT_.out (by kernel_rfl)) (fun _ _ _ h => h) (Or.inl ⟨by rfl,?_⟩) ?_ ?_;rotate_left;intro w';go_simp;(with_reducible rfl);rotate_left;simp only [Act.put,sA,s0,s1,i64_w,i32_w];rfl
          refine pure_ (i:=10) (N:=some 34) (v:=?_) (a':=?_) m11_7 rfl rfl (any_of HT_.out (by kernel_rfl)) (fun _ _ _ h => h) (Or.inl ⟨by rfl,?_⟩) ?_ ?_;rotate_left;intro w';go_simp;(with_reducible rfl);rotate_left;simp only [Act.put,sA,s0,s1,i64_w,i32_w];rfl
          refine pure_ (i:=11) (N:=some 35) (v:=undef) (a':=?_) m12_7 rfl rfl (any_of HT_.out (by kernel_rfl)) (fun _ _ _ h => h) (Or.inr ⟨by rfl,rfl⟩) ?_ ?_;rotate_left
          ·simp only [Act.put,sA,s0,s1,i64_w,i32_w];rfl
          refine pure_ (i:=12) (N:=some 36) (v:=undef) (a':=?_) m13_7 rfl rfl (any_of HT_.out (by kernel_rfl)) (fun _ _ _ h => h) (Or.inr ⟨by rfl,rfl⟩) ?_ ?_;rotate_left
          ·simp only [Act.put,sA,s0,s1,i64_w,i32_w];rfl
          refine pure_ (i:=13) (N:=some 37) (v:=undef) (a':=?_) m14_7 rfl rfl (any_of HT_.out (by kernel_rfl)) (fun _ _ _ h => h) (Or.inr ⟨by rfl,rfl⟩) ?_ ?_;rotate_left
          ·simp only [Act.put,sA,s0,s1,i64_w,i32_w];rfl
          refine pure_ (i:=14) (N:=some 38) (v:=undef) (a':=?_) m15_7 rfl rfl (any_of HT_.out (by kernel_rfl)) (fun _ _ _ h => h) (Or.inr ⟨by rfl,rfl⟩) ?_ ?_;rotate_left
          ·simp only [Act.put,sA,s0,s1,i64_w,i32_w];rfl
          refine pure_ (i:=15) (N:=some 39) (v:=?_) (a':=?_) m16_7 rfl rfl (any_of HT_.out (by kernel_rfl)) (fun _ _ _ h => h) (Or.inl ⟨by rfl,?_⟩) ?_ ?_;rotate_left;intro w';go_simp;(with_reducible rfl);rotate_left;simp only [Act.put,sA,s0,s1,i64_w,i32_w];rfl
          refine pure_ (i:=16) (N:=some 40) (v:=?_) (a':=?_) m17_7 rfl rfl (any_of HT_.out (by kernel_rfl)) (fun _ _ _ h => h) (Or.inl ⟨by rfl,?_⟩) ?_ ?_;rotate_left;intro w';go_simp;(with_reducible rfl);rotate_left;simp only [Act.put,sA,s0,s1,i64_w,i32_w];rfl
          refine pure_ (i:=17) (N:=some 41) (v:=undef) (a':=?_) m18_7 rfl rfl (any_of HT_.out (by kernel_rfl)) (fun _ _ _ h => h) (Or.inr ⟨by rfl,rfl⟩) ?_ ?_;rotate_left
          ·simp only [Act.put,sA,s0,s1,i64_w,i32_w];rfl
          refine pure_ (i:=18) (N:=some 42) (v:=undef) (a':=?_) m39_7 rfl rfl (any_of HT_.out (by kernel_rfl)) (fun _ _ _ h => h) (Or.inr ⟨by rfl,rfl⟩) ?_ ?_;rotate_left
          ·simp only [Act.put,sA,s0,s1,i64_w,i32_w];rfl
          refine pure_ (i:=19) (N:=some 43) (v:=undef) (a':=?_) m20_7 rfl rfl (any_of HT_.out (by kernel_rfl)) (fun _ _ _ h => h) (Or.inr ⟨by rfl,rfl⟩) ?_ ?_;rotate_left
          ·simp only [Act.put,sA,s0,s1,i64_w,i32_w];rfl
          refine pure_ (i:=20) (N:=some 44) (v:=undef) (a':=?_) m21_7 rfl rfl (any_of HT_.out (by kernel_rfl)) (fun _ _ _ h => h) (Or.inr ⟨by rfl,rfl⟩) ?_ ?_;rotate_left
          ·simp only [Act.put,sA,s0,s1,i64_w,i32_w];rfl
          refine pure_ (i:=21) (N:=some 45) (v:=?_) (a':=?_) m22_7 rfl rfl (any_of HT_.out (by kernel_rfl)) (fun _ _ _ h => h) (Or.inl ⟨by rfl,?_⟩) ?_ ?_;rotate_left;intro w';go_simp;(with_reducible rfl);rotate_left;simp only [Act.put,sA,s0,s1,i64_w,i32_w];rfl
          refine pure_ (i:=22) (N:=some 46) (v:=?_) (a':=?_) m23_7 rfl rfl (any_of HT_.out (by kernel_rfl)) (fun _ _ _ h => h) (Or.inl ⟨by rfl,?_⟩) ?_ ?_;rotate_left;intro w';go_simp;(with_reducible rfl);rotate_left;simp only [Act.put,sA,s0,s1,i64_w,i32_w];rfl
          refine pure_ (i:=23) (N:=some 47) (v:=undef) (a':=?_) m24_7 rfl rfl (any_of HT_.out (by kernel_rfl)) (fun _ _ _ h => h) (Or.inr ⟨by rfl,rfl⟩) ?_ ?_;rotate_left
          ·simp only [Act.put,sA,s0,s1,i64_w,i32_w];rfl
          refine pure_ (i:=24) (N:=some 48) (v:=undef) (a':=?_) m25_7 rfl rfl (any_of HT_.out (by kernel_rfl)) (fun _ _ _ h => h) (Or.inr ⟨by rfl,rfl⟩) ?_ ?_;rotate_left
          ·simp only [Act.put,sA,s0,s1,i64_w,i32_w];rfl
          refine pure_ (i:=25) (N:=some 49) (v:=undef) (a':=?_) m26_7 rfl rfl (any_of HT_.out (by kernel_rfl)) (fun _ _ _ h => h) (Or.inr ⟨by rfl,rfl⟩) ?_ ?_;rotate_left
          ·simp only [Act.put,sA,s0,s1,i64_w,i32_w];rfl
          refine pure_ (i:=26) (N:=some 50) (v:=undef) (a':=?_) m27_7 rfl rfl (any_of HT_.out (by kernel_rfl)) (fun _ _ _ h => h) (Or.inr ⟨by rfl,rfl⟩) ?_ ?_;rotate_left
          ·simp only [Act.put,sA,s0,s1,i64_w,i32_w];rfl
          refine pure_ (i:=27) (N:=some 51) (v:=undef) (a':=?_) m28_7 rfl rfl (any_of HT_.out (by kernel_rfl)) (fun _ _ _ h => h) (Or.inr ⟨by rfl,rfl⟩) ?_ ?_;rotate_left
          ·simp only [Act.put,sA,s0,s1,i64_w,i32_w];rfl
          refine pure_ (i:=28) (N:=some 52) (v:=undef) (a':=?_) m29_7 rfl rfl (any_of HT_.out (by kernel_rfl)) (fun _ _ _ h => h) (Or.inr ⟨by rfl,rfl⟩) ?_ ?_;rotate_left
          ·simp only [Act.put,sA,s0,s1,i64_w,i32_w];rfl
          refine pure_ (i:=29) (N:=some 53) (v:=undef) (a':=?_) m30_7 rfl rfl (any_of HT_.out (by kernel_rfl)) (fun _ _ _ h => h) (Or.inr ⟨by rfl,rfl⟩) ?_ ?_;rotate_left
          ·simp only [Act.put,sA,s0,s1,i64_w,i32_w];rfl
          refine pure_ (i:=30) (N:=some 54) (v:=undef) (a':=?_) m31_7 rfl rfl (any_of HT_.out (by kernel_rfl)) (fun _ _ _ h => h) (Or.inr ⟨by rfl,rfl⟩) ?_ ?_;rotate_left
          ·simp only [Act.put,sA,s0,s1,i64_w,i32_w];rfl
          refine pure_ (i:=31) (N:=some 55) (v:=undef) (a':=?_) m38_7 rfl rfl (any_of HT_.out (by kernel_rfl)) (fun _ _ _ h => h) (Or.inr ⟨by rfl,rfl⟩) ?_ ?_;rotate_left
          ·simp only [Act.put,sA,s0,s1,i64_w,i32_w];rfl
          refine pure_ (i:=32) (N:=some 56) (v:=undef) (a':=?_) m33_7 rfl rfl (any_of HT_.out (by kernel_rfl)) (fun _ _ _ h => h) (Or.inr ⟨by rfl,rfl⟩) ?_ ?_;rotate_left
          ·simp only [Act.put,sA,s0,s1,i64_w,i32_w];rfl
          refine pure_ (i:=33) (N:=some 57) (v:=undef) (a':=?_) m34_7 rfl rfl (any_of HT_.out (by kernel_rfl)) (fun _ _ _ h => h) (Or.inr ⟨by rfl,rfl⟩) ?_ ?_;rotate_left
          ·simp only [Act.put,sA,s0,s1,i64_w,i32_w];rfl
          refine pure_ (i:=34) (N:=some 58) (v:=undef) (a':=?_) m35_7 rfl rfl (any_of HT_.out (by kernel_rfl)) (fun _ _ _ h => h) (Or.inr ⟨by rfl,rfl⟩) ?_ ?_;rotate_left
          ·simp only [Act.put,sA,s0,s1,i64_w,i32_w];rfl
          refine pure_ (i:=35) (N:=some 59) (v:=undef) (a':=?_) m36_7 rfl rfl (any_of HT_.out (by kernel_rfl)) (fun _ _ _ h => h) (Or.inr ⟨by rfl,rfl⟩) ?_ ?_;rotate_left
          ·simp only [Act.put,sA,s0,s1,i64_w,i32_w];rfl
          refine pure_ (i:=36) (N:=some 60) (v:=?_) (a':=?_) m37_7 rfl rfl (any_of HT_.out (by kernel_rfl)) (fun _ _ _ h => h) (Or.inl ⟨by rfl,?_⟩) ?_ ?_;rotate_left;intro w';go_simp;(with_reducible rfl);rotate_left;simp only [Act.put,sA,s0,s1,i64_w,i32_w];rfl
          refine done_ (done_of HT_.out (by kernel_rfl)) ?_
          try go_wp2
          go_ret
          exact ⟨by first | rfl | (simp [errW_none,errW_some] <;> rfl) | (simp [*,errW_none,errW_some] <;> rfl),by repeat (first | (with_reducible first | exact HB.out | apply bA | apply bN | apply bD | refine below_set ?_ GE157.out) | exact HB.out)⟩
        ·replace c9:=Bool.eq_false_iff.mpr c9;subst c9;have H1 : (some false) = some r:=by rw [if_neg (show ¬ (false = true) by decide)] at H;exact H
         clear H;have H:=H1;clear H1;obtain rfl:=Option.some.inj H;have p156 : 0 ≤ (x4_1 : Int):=odt (by first | (with_reducible assumption) | assumption);have q156 : x4_1 < (l0.length : Int):=odt (by first | (with_reducible assumption) | assumption);obtain ⟨ad156,e156,hx156_0,hx156_1,hx156_2,hx156_3⟩:=at_T44 HR0.out x4_1 p156 q156
         cases e156
         replace hx156_0:=(ct HB.out hx156_0 :)
         replace hx156_1:=(ct HB.out hx156_1 :)
         replace hx156_2:=(ct HB.out hx156_2 :)
         replace hx156_3:=(ct HB.out hx156_3 :)
         replace p156:=eq_true p156;replace q156:=eq_true q156
         try go_wp2_with (first | ((with_reducible refine gate_dst (N:=5) rfl ?_);(try (refine gate_guard (by rfl) ?_;dsimp only));refine box_event ?hg (N:=5) ?hd (cs:=#[.int .i64 0,.int .i64 0,.int .i64 0,.int .i64 0]) (t:=44) ?hr ?_;(case hd => rfl);(case hg => rfl);(case hr => first | (go_simp;done) | (go_simp;rfl));intro gb157 hg w44 hbox hb;have n0_:=am (below_step (by repeat (first | (with_reducible first | exact HB.out | apply bA | apply bN | apply bD) | exact HB.out)) hb);have n1_:=am (hbox);have n2_:=am ((by rw [hg];exact (below_size (by repeat (first | (with_reducible first | exact HB.out | apply bA | apply bN | apply bD) | exact HB.out))) : w.heap.size ≤ gb157));have n3_:=am ((by rw [hg];exact (below_size (by repeat (first | (with_reducible first | exact HB.out | apply bA | apply bN | apply bD) | exact HB.out))) : w.heap.size ≤ gb157));clear HB;have HB:=n0_;have BK157:=n1_;have GW157:=n2_;have GE157:=n3_;clear n0_ n1_ n2_ n3_;clear hb hbox hg;have hcz45_0 : w44.cell? ⟨gb157,0,none⟩ = some (.int .i64 0):=(blk_cell BK157.out 0).trans rfl;have hcz45_1 : w44.cell? ⟨gb157,1,none⟩ = some (.int .i64 0):=(blk_cell BK157.out 1).trans rfl;have hcz45_2 : w44.cell? ⟨gb157,2,none⟩ = some (.int .i64 0):=(blk_cell BK157.out 2).trans rfl;have hcz45_3 : w44.cell? ⟨gb157,3,none⟩ = some (.int .i64 0):=(blk_cell BK157.out 3).trans rfl;have hfz45_0:=blk_frozen BK157.out 0;have hfz45_1:=blk_frozen BK157.out 1;have hfz45_2:=blk_frozen BK157.out 2;have hfz45_3:=blk_frozen BK157.out 3) | ((with_reducible refine gate_callee (f:=51) rfl ?_);refine goesL_ (some 23) rfl rfl Try.func51 (by kernel_rfl) rfl #[.int .i64 x3_1,.agg #[.int .i64 ((rd_T44 l0 x4_1).f0),.int .i64 ((rd_T44 l0 x4_1).f1),.int .i64 ((rd_T44 l0 x4_1).f2),.int .i64 ((rd_T44 l0 x4_1).f3)]] rfl (by (try simp only [List.map_toArray,List.map_cons,List.map_nil]);first | done | rfl | (simp only [List.length_drop,List.length_take];rfl)) ?_;(with_reducible refine (spec_l21Seal.calls kj1 x3_1 ((rd_T44 l0 x4_1).f0) ((rd_T44 l0 x4_1).f1) ((rd_T44 l0 x4_1).f2) ((rd_T44 l0 x4_1).f3) t158 _ A7.out).mono ?_);rintro e w46 ⟨rfl,hb⟩;refine ⟨_,rfl,?_⟩;have n0_:=am (blk_below (g:=gb157) (o:=.cells #[.int .i64 ((rd_T44 l0 x4_1).f0),.int .i64 ((rd_T44 l0 x4_1).f1),.int .i64 ((rd_T44 l0 x4_1).f2),.int .i64 ((rd_T44 l0 x4_1).f3)] 44 (0,0)) (by (with_reducible repeat (first | refine dN ?_ _ | refine dD ?_ | refine dA ?_ _));refine blk_put (cs:=#[.int .i64 ((rd_T44 l0 x4_1).f0),.int .i64 ((rd_T44 l0 x4_1).f1),.int .i64 ((rd_T44 l0 x4_1).f2),.int .i64 0]) ?_ 3 _ rfl;(with_reducible repeat (first | refine dN ?_ _ | refine dD ?_ | refine dA ?_ _));refine blk_put (cs:=#[.int .i64 ((rd_T44 l0 x4_1).f0),.int .i64 ((rd_T44 l0 x4_1).f1),.int .i64 0,.int .i64 0]) ?_ 2 _ rfl;(with_reducible repeat (first | refine dN ?_ _ | refine dD ?_ | refine dA ?_ _));refine blk_put (cs:=#[.int .i64 ((rd_T44 l0 x4_1).f0),.int .i64 0,.int .i64 0,.int .i64 0]) ?_ 1 _ rfl;(with_reducible repeat (first | refine dN ?_ _ | refine dD ?_ | refine dA ?_ _));refine blk_put (cs:=#[.int .i64 0,.int .i64 0,.int .i64 0,.int .i64 0]) ?_ 0 _ rfl;(with_reducible repeat (first | refine dN ?_ _ | refine dD ?_ | refine dA ?_ _));exact BK157.out) hb);have n1_:=am (below_step (by repeat (first | (with_reducible first | exact HB.out | apply bA | apply bN | apply bD | refine below_set ?_ GE157.out) | exact HB.out)) hb);clear BK157;clear HB;have BK157:=n0_;have HB:=n1_;clear n0_ n1_;(try clear hb);(try clear hb2);(try clear hk);(try clear hi)))
         have n0_:=am (blk_drew BK157.out);have n1_:=am (below_drew1 HB.out);clear BK157;clear HB;have BK157:=n0_;have HB:=n1_;clear n0_ n1_;refine start_ (n:=37) (S:=fun w' => w'.cell? ⟨gb157,0,none⟩ = some (.int .i64 ((rd_T44 l0 x4_1).f0)) ∧ w'.cell? ⟨gb157,1,none⟩ = some (.int .i64 ((rd_T44 l0 x4_1).f1)) ∧ w'.cell? ⟨gb157,2,none⟩ = some (.int .i64 ((rd_T44 l0 x4_1).f2)) ∧ w'.cell? ⟨gb157,3,none⟩ = some (.int .i64 ((rd_T44 l0 x4_1).f3))) (ds:=[]) m0_7 (by kernel_rfl) rfl rfl ⟨(blk_cell BK157.out 0).trans rfl,(blk_cell BK157.out 1).trans rfl,(blk_cell BK157.out 2).trans rfl,(blk_cell BK157.out 3).trans rfl⟩ (fun hHeld => ?_);refine with_tabW spec_IsJournal.tab7 spec_IsJournal.bits7 (fun HT_ HW_ => ?_)
         generalize w46.drew = w47 at BK157 HB hHeld ⊢
         refine pure_ (i:=0) (N:=some 24) (v:=?_) (a':=?_) m1_7 rfl rfl (any_of HT_.out (by kernel_rfl)) (fun _ _ _ h => h) (Or.inl ⟨by rfl,?_⟩) ?_ ?_;rotate_left;intro w';go_simp;(with_reducible rfl);rotate_left;simp only [Act.put,sA,s0,s1,i64_w,i32_w];rfl
         refine take_ (i:=1) (N:=some 25) (v:=?_) (a':=?_) m2_7 rfl rfl (take_ofW HT_.out HW_.out (by kernel_rfl)) (fun _ _ _ h => h) (Or.inl ⟨by rfl,?_⟩) hHeld ?_ ?_;rotate_left
         ·rintro w' ⟨s0,s1,s2,s3⟩
          go_simp;with_reducible rfl
         rotate_left
         ·simp only [Act.put,sA,s0,s1,i64_w,i32_w];rfl
         refine one_ (i:=2) (N:=some 26) m3_7 rfl rfl (one_of HT_.out (by kernel_rfl)) (by decide) (fun K hK => ?_);refine goes_ Try.func52 (by kernel_rfl) rfl #[.int .i64 ((rd_T44 l0 x4_1).f0),.int .i64 0,.int .i64 10000] (by rfl) rfl rfl (by (try simp only [List.map_toArray,List.map_cons,List.map_nil]);first | done | rfl | (simp only [List.length_drop,List.length_take];rfl)) ?_;with_reducible refine (spec_l1In.calls ((rd_T44 l0 x4_1).f0) 0 10000 false _ A8.out).mono ?_
         rintro e w' ⟨rfl,⟨nd,rfl⟩⟩
         refine ⟨_,rfl,?_⟩;refine hK.out _ _ ⟨(blk_cell BK157.out 0).trans rfl,(blk_cell BK157.out 1).trans rfl,(blk_cell BK157.out 2).trans rfl,(blk_cell BK157.out 3).trans rfl⟩ (fun hHeld => ?_);clear hK K;refine norm_ (a':=?_) ?_ ?_;rotate_left
         ·show Act.put _ (some 26) _ = _
          simp only [Act.put,sA,s0,s1,i64_w,i32_w];rfl
         refine pure_ (i:=3) (N:=some 27) (v:=?_) (a':=?_) m4_7 rfl rfl (any_of HT_.out (by kernel_rfl)) (fun _ _ _ h => h) (Or.inl ⟨by rfl,?_⟩) ?_ ?_;rotate_left;intro w';go_simp;(with_reducible rfl);rotate_left;simp only [Act.put,sA,s0,s1,i64_w,i32_w];rfl
         refine pure_ (i:=4) (N:=some 28) (v:=?_) (a':=?_) m5_7 rfl rfl (any_of HT_.out (by kernel_rfl)) (fun _ _ _ h => h) (Or.inl ⟨by rfl,?_⟩) ?_ ?_;rotate_left;intro w';go_simp;(with_reducible rfl);rotate_left;simp only [Act.put,sA,s0,s1,i64_w,i32_w];rfl
         refine pure_ (i:=5) (N:=some 29) (v:=undef) (a':=?_) m6_7 rfl rfl (any_of HT_.out (by kernel_rfl)) (fun _ _ _ h => h) (Or.inr ⟨by rfl,rfl⟩) ?_ ?_;rotate_left
         ·simp only [Act.put,sA,s0,s1,i64_w,i32_w];rfl
         refine pure_ (i:=6) (N:=some 30) (v:=undef) (a':=?_) m7_7 rfl rfl (any_of HT_.out (by kernel_rfl)) (fun _ _ _ h => h) (Or.inr ⟨by rfl,rfl⟩) ?_ ?_;rotate_left
         ·simp only [Act.put,sA,s0,s1,i64_w,i32_w];rfl
         refine pure_ (i:=7) (N:=some 31) (v:=undef) (a':=?_) m8_7 rfl rfl (any_of HT_.out (by kernel_rfl)) (fun _ _ _ h => h) (Or.inr ⟨by rfl,rfl⟩) ?_ ?_;rotate_left
         ·simp only [Act.put,sA,s0,s1,i64_w,i32_w];rfl
         refine pure_ (i:=8) (N:=some 32) (v:=undef) (a':=?_) m9_7 rfl rfl (any_of HT_.out (by kernel_rfl)) (fun _ _ _ h => h) (Or.inr ⟨by rfl,rfl⟩) ?_ ?_;rotate_left
         ·simp only [Act.put,sA,s0,s1,i64_w,i32_w];rfl
         refine pure_ (i:=9) (N:=some 33) (v:=?_) (a':=?_) m10_7 rfl rfl (any_of HT_.out (by kernel_rfl)) (fun _ _ _ h => h) (Or.inl ⟨by rfl,?_⟩) ?_ ?_;rotate_left;intro w';go_simp;(with_reducible rfl);rotate_left;simp only [Act.put,sA,s0,s1,i64_w,i32_w];rfl
         refine pure_ (i:=10) (N:=some 34) (v:=?_) (a':=?_) m11_7 rfl rfl (any_of HT_.out (by kernel_rfl)) (fun _ _ _ h => h) (Or.inl ⟨by rfl,?_⟩) ?_ ?_;rotate_left;intro w';go_simp;(with_reducible rfl);rotate_left;simp only [Act.put,sA,s0,s1,i64_w,i32_w];rfl
         refine pure_ (i:=11) (N:=some 35) (v:=undef) (a':=?_) m12_7 rfl rfl (any_of HT_.out (by kernel_rfl)) (fun _ _ _ h => h) (Or.inr ⟨by rfl,rfl⟩) ?_ ?_;rotate_left
         ·simp only [Act.put,sA,s0,s1,i64_w,i32_w];rfl
         refine pure_ (i:=12) (N:=some 36) (v:=undef) (a':=?_) m13_7 rfl rfl (any_of HT_.out (by kernel_rfl)) (fun _ _ _ h => h) (Or.inr ⟨by rfl,rfl⟩) ?_ ?_;rotate_left
         ·simp only [Act.put,sA,s0,s1,i64_w,i32_w];rfl
         refine pure_ (i:=13) (N:=some 37) (v:=undef) (a':=?_) m14_7 rfl rfl (any_of HT_.out (by kernel_rfl)) (fun _ _ _ h => h) (Or.inr ⟨by rfl,rfl⟩) ?_ ?_;rotate_left
         ·simp only [Act.put,sA,s0,s1,i64_w,i32_w];rfl
         refine pure_ (i:=14) (N:=some 38) (v:=undef) (a':=?_) m15_7 rfl rfl (any_of HT_.out (by kernel_rfl)) (fun _ _ _ h => h) (Or.inr ⟨by rfl,rfl⟩) ?_ ?_;rotate_left
         ·simp only [Act.put,sA,s0,s1,i64_w,i32_w];rfl
         refine pure_ (i:=15) (N:=some 39) (v:=?_) (a':=?_) m16_7 rfl rfl (any_of HT_.out (by kernel_rfl)) (fun _ _ _ h => h) (Or.inl ⟨by rfl,?_⟩) ?_ ?_;rotate_left;intro w';go_simp;(with_reducible rfl);rotate_left;simp only [Act.put,sA,s0,s1,i64_w,i32_w];rfl
         refine pure_ (i:=16) (N:=some 40) (v:=?_) (a':=?_) m17_7 rfl rfl (any_of HT_.out (by kernel_rfl)) (fun _ _ _ h => h) (Or.inl ⟨by rfl,?_⟩) ?_ ?_;rotate_left;intro w';go_simp;(with_reducible rfl);rotate_left;simp only [Act.put,sA,s0,s1,i64_w,i32_w];rfl
         refine pure_ (i:=17) (N:=some 41) (v:=undef) (a':=?_) m18_7 rfl rfl (any_of HT_.out (by kernel_rfl)) (fun _ _ _ h => h) (Or.inr ⟨by rfl,rfl⟩) ?_ ?_;rotate_left
         ·simp only [Act.put,sA,s0,s1,i64_w,i32_w];rfl
         refine pure_ (i:=18) (N:=some 42) (v:=undef) (a':=?_) m39_7 rfl rfl (any_of HT_.out (by kernel_rfl)) (fun _ _ _ h => h) (Or.inr ⟨by rfl,rfl⟩) ?_ ?_;rotate_left
         ·simp only [Act.put,sA,s0,s1,i64_w,i32_w];rfl
         refine pure_ (i:=19) (N:=some 43) (v:=undef) (a':=?_) m20_7 rfl rfl (any_of HT_.out (by kernel_rfl)) (fun _ _ _ h => h) (Or.inr ⟨by rfl,rfl⟩) ?_ ?_;rotate_left
         ·simp only [Act.put,sA,s0,s1,i64_w,i32_w];rfl
         refine pure_ (i:=20) (N:=some 44) (v:=undef) (a':=?_) m21_7 rfl rfl (any_of HT_.out (by kernel_rfl)) (fun _ _ _ h => h) (Or.inr ⟨by rfl,rfl⟩) ?_ ?_;rotate_left
         ·simp only [Act.put,sA,s0,s1,i64_w,i32_w];rfl
         refine pure_ (i:=21) (N:=some 45) (v:=?_) (a':=?_) m22_7 rfl rfl (any_of HT_.out (by kernel_rfl)) (fun _ _ _ h => h) (Or.inl ⟨by rfl,?_⟩) ?_ ?_;rotate_left;intro w';go_simp;(with_reducible rfl);rotate_left;simp only [Act.put,sA,s0,s1,i64_w,i32_w];rfl
         refine pure_ (i:=22) (N:=some 46) (v:=?_) (a':=?_) m23_7 rfl rfl (any_of HT_.out (by kernel_rfl)) (fun _ _ _ h => h) (Or.inl ⟨by rfl,?_⟩) ?_ ?_;rotate_left;intro w';go_simp;(with_reducible rfl);rotate_left;simp only [Act.put,sA,s0,s1,i64_w,i32_w];rfl
         refine pure_ (i:=23) (N:=some 47) (v:=undef) (a':=?_) m24_7 rfl rfl (any_of HT_.out (by kernel_rfl)) (fun _ _ _ h => h) (Or.inr ⟨by rfl,rfl⟩) ?_ ?_;rotate_left
         ·simp only [Act.put,sA,s0,s1,i64_w,i32_w];rfl
         refine pure_ (i:=24) (N:=some 48) (v:=undef) (a':=?_) m25_7 rfl rfl (any_of HT_.out (by kernel_rfl)) (fun _ _ _ h => h) (Or.inr ⟨by rfl,rfl⟩) ?_ ?_;rotate_left
         ·simp only [Act.put,sA,s0,s1,i64_w,i32_w];rfl
         refine pure_ (i:=25) (N:=some 49) (v:=undef) (a':=?_) m26_7 rfl rfl (any_of HT_.out (by kernel_rfl)) (fun _ _ _ h => h) (Or.inr ⟨by rfl,rfl⟩) ?_ ?_;rotate_left
         ·simp only [Act.put,sA,s0,s1,i64_w,i32_w];rfl
         refine pure_ (i:=26) (N:=some 50) (v:=undef) (a':=?_) m27_7 rfl rfl (any_of HT_.out (by kernel_rfl)) (fun _ _ _ h => h) (Or.inr ⟨by rfl,rfl⟩) ?_ ?_;rotate_left
         ·simp only [Act.put,sA,s0,s1,i64_w,i32_w];rfl
         refine pure_ (i:=27) (N:=some 51) (v:=undef) (a':=?_) m28_7 rfl rfl (any_of HT_.out (by kernel_rfl)) (fun _ _ _ h => h) (Or.inr ⟨by rfl,rfl⟩) ?_ ?_;rotate_left
         ·simp only [Act.put,sA,s0,s1,i64_w,i32_w];rfl
         refine pure_ (i:=28) (N:=some 52) (v:=undef) (a':=?_) m29_7 rfl rfl (any_of HT_.out (by kernel_rfl)) (fun _ _ _ h => h) (Or.inr ⟨by rfl,rfl⟩) ?_ ?_;rotate_left
         ·simp only [Act.put,sA,s0,s1,i64_w,i32_w];rfl
         refine pure_ (i:=29) (N:=some 53) (v:=undef) (a':=?_) m30_7 rfl rfl (any_of HT_.out (by kernel_rfl)) (fun _ _ _ h => h) (Or.inr ⟨by rfl,rfl⟩) ?_ ?_;rotate_left
         ·simp only [Act.put,sA,s0,s1,i64_w,i32_w];rfl
         refine pure_ (i:=30) (N:=some 54) (v:=undef) (a':=?_) m31_7 rfl rfl (any_of HT_.out (by kernel_rfl)) (fun _ _ _ h => h) (Or.inr ⟨by rfl,rfl⟩) ?_ ?_;rotate_left
         ·simp only [Act.put,sA,s0,s1,i64_w,i32_w];rfl
         refine pure_ (i:=31) (N:=some 55) (v:=undef) (a':=?_) m38_7 rfl rfl (any_of HT_.out (by kernel_rfl)) (fun _ _ _ h => h) (Or.inr ⟨by rfl,rfl⟩) ?_ ?_;rotate_left
         ·simp only [Act.put,sA,s0,s1,i64_w,i32_w];rfl
         refine pure_ (i:=32) (N:=some 56) (v:=undef) (a':=?_) m33_7 rfl rfl (any_of HT_.out (by kernel_rfl)) (fun _ _ _ h => h) (Or.inr ⟨by rfl,rfl⟩) ?_ ?_;rotate_left
         ·simp only [Act.put,sA,s0,s1,i64_w,i32_w];rfl
         refine pure_ (i:=33) (N:=some 57) (v:=undef) (a':=?_) m34_7 rfl rfl (any_of HT_.out (by kernel_rfl)) (fun _ _ _ h => h) (Or.inr ⟨by rfl,rfl⟩) ?_ ?_;rotate_left
         ·simp only [Act.put,sA,s0,s1,i64_w,i32_w];rfl
         refine pure_ (i:=34) (N:=some 58) (v:=undef) (a':=?_) m35_7 rfl rfl (any_of HT_.out (by kernel_rfl)) (fun _ _ _ h => h) (Or.inr ⟨by rfl,rfl⟩) ?_ ?_;rotate_left
         ·simp only [Act.put,sA,s0,s1,i64_w,i32_w];rfl
         refine pure_ (i:=35) (N:=some 59) (v:=undef) (a':=?_) m36_7 rfl rfl (any_of HT_.out (by kernel_rfl)) (fun _ _ _ h => h) (Or.inr ⟨by rfl,rfl⟩) ?_ ?_;rotate_left
         ·simp only [Act.put,sA,s0,s1,i64_w,i32_w];rfl
         refine pure_ (i:=36) (N:=some 60) (v:=?_) (a':=?_) m37_7 rfl rfl (any_of HT_.out (by kernel_rfl)) (fun _ _ _ h => h) (Or.inl ⟨by rfl,?_⟩) ?_ ?_;rotate_left;intro w';go_simp;(with_reducible rfl);rotate_left;simp only [Act.put,sA,s0,s1,i64_w,i32_w];rfl
         refine done_ (done_of HT_.out (by kernel_rfl)) ?_
         try go_wp2
         go_ret
         exact ⟨by first | rfl | (simp [errW_none,errW_some] <;> rfl) | (simp [*,errW_none,errW_some] <;> rfl),by repeat (first | (with_reducible first | exact HB.out | apply bA | apply bN | apply bD | refine below_set ?_ GE157.out) | exact HB.out)⟩
       ·rw [if_neg c6] at H;exact absurd H (by simp)
      ·rw [if_neg c5] at H;exact absurd H (by simp)
     ·replace c4:=Bool.eq_false_iff.mpr c4;subst c4;have H1 : (some (decide ((l0.length : Int) ≤ 100))) = some r:=by rw [if_neg (show ¬ (false = true) by decide)] at H;exact H
      clear H;have H:=H1;clear H1;obtain rfl:=Option.some.inj H;go_wp2
      go_ret
      exact ⟨by first | rfl | (simp [errW_none,errW_some] <;> rfl) | (simp [*,errW_none,errW_some] <;> rfl),by repeat (first | (with_reducible first | exact HB.out | apply bA | apply bN | apply bD) | exact HB.out)⟩

end Go.Proofs.Ytdjdkngpbgobfaa.PFnJournals
