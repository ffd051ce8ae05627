/- Contracts of functions that the law FnJournals reaches, for its row: lines that the kit's printer wrote for this claim, set shorter by a program of this session (own.py), and what fell in Lean proved anew. Lean checks them. -/
import Derived.Test.YtdjdkngpbgobfaaSFnJournalsx0
import Derived.Test.YtdjdkngpbgobfaaSFnJournalsx2
namespace Go.Proofs.Ytdjdkngpbgobfaa.PFnJournals
open Go.RowKit Go.Proofs.YtdjdkngpbgobfaaW.PrintWords Go.Proofs.YtdjdkngpbgobfaaW.PrintLast Go.Proofs.YtdjdkngpbgobfaaW.PrintMore
attribute [local go_sem] max2_int min2_int max_two min_two max_three min_three max_four min_four   -- for this text's walks alone
set_option linter.unusedVariables false
set_option linter.unusedSimpArgs false

abbrev m0_3 : Array Bool := #[Z,Z,Z,Z,Z,Z,Z,Z,Z,Z,Z,Z,Z,Z,Z,Z,Z,Z,Z,Z,Z,Z,Z,Z,Z,Z]
abbrev m1_3 : Array Bool := #[Y,Z,Z,Z,Z,Z,Z,Z,Z,Z,Z,Z,Z,Z,Z,Z,Z,Z,Z,Z,Z,Z,Z,Z,Z,Z]
abbrev m2_3 : Array Bool := #[Y,Z,Y,Z,Z,Z,Z,Z,Z,Z,Z,Z,Z,Z,Z,Z,Z,Z,Z,Z,Z,Z,Z,Z,Z,Z]
abbrev m3_3 : Array Bool := #[Y,Z,Y,Y,Z,Z,Z,Z,Z,Z,Z,Z,Z,Z,Z,Z,Z,Z,Z,Z,Z,Z,Z,Z,Z,Z]
abbrev m4_3 : Array Bool := #[Y,Y,Y,Y,Z,Z,Z,Z,Z,Z,Z,Z,Z,Z,Z,Z,Z,Z,Z,Z,Z,Z,Z,Z,Z,Z]
abbrev m5_3 : Array Bool := #[Y,Y,Y,Y,Y,Z,Z,Z,Z,Z,Z,Z,Z,Z,Z,Z,Z,Z,Z,Z,Z,Z,Z,Z,Z,Z]
abbrev m6_3 : Array Bool := #[Y,Y,Y,Y,Y,Y,Z,Z,Z,Z,Z,Z,Z,Z,Z,Z,Z,Z,Z,Z,Z,Z,Z,Z,Z,Z]
abbrev m7_3 : Array Bool := #[Y,Y,Y,Y,Y,Y,Y,Z,Z,Z,Z,Z,Z,Z,Z,Z,Z,Z,Z,Z,Z,Z,Z,Z,Z,Z]
abbrev m8_3 : Array Bool := #[Y,Y,Y,Y,Y,Y,Y,Y,Z,Z,Z,Z,Z,Z,Z,Z,Z,Z,Z,Z,Z,Z,Z,Z,Z,Z]
abbrev m9_3 : Array Bool := #[Y,Y,Y,Y,Y,Y,Y,Y,Y,Z,Z,Z,Z,Z,Z,Z,Z,Z,Z,Z,Z,Z,Z,Z,Z,Z]
abbrev m10_3 : Array Bool := #[Y,Y,Y,Y,Y,Y,Y,Y,Y,Y,Z,Z,Z,Z,Z,Z,Z,Z,Z,Z,Z,Z,Z,Z,Z,Z]
abbrev m11_3 : Array Bool := #[Y,Y,Y,Y,Y,Y,Y,Y,Y,Y,Y,Z,Z,Z,Z,Z,Z,Z,Z,Z,Z,Z,Z,Z,Z,Z]
abbrev m12_3 : Array Bool := #[Y,Y,Y,Y,Y,Y,Y,Y,Y,Y,Y,Y,Z,Z,Z,Z,Z,Z,Z,Z,Z,Z,Z,Z,Z,Z]
abbrev m13_3 : Array Bool := #[Y,Y,Y,Y,Y,Y,Y,Y,Y,Y,Y,Y,Y,Z,Z,Z,Z,Z,Z,Z,Z,Z,Z,Z,Z,Z]
abbrev m14_3 : Array Bool := #[Y,Y,Y,Y,Y,Y,Y,Y,Y,Y,Y,Y,Y,Y,Z,Z,Z,Z,Z,Z,Z,Z,Z,Z,Z,Z]
abbrev m15_3 : Array Bool := #[Y,Y,Y,Y,Y,Y,Y,Y,Y,Y,Y,Y,Y,Y,Y,Z,Z,Z,Z,Z,Z,Z,Z,Z,Z,Z]
abbrev m16_3 : Array Bool := #[Y,Y,Y,Y,Y,Y,Y,Y,Y,Y,Y,Y,Y,Y,Y,Y,Z,Z,Z,Z,Z,Z,Z,Z,Z,Z]
abbrev m17_3 : Array Bool := #[Y,Y,Y,Y,Y,Y,Y,Y,Y,Y,Y,Y,Y,Y,Y,Y,Y,Z,Z,Z,Z,Z,Z,Z,Z,Z]
abbrev m18_3 : Array Bool := #[Y,Y,Y,Y,Y,Y,Y,Y,Y,Y,Y,Y,Y,Y,Y,Y,Y,Y,Z,Z,Z,Z,Z,Z,Z,Z]
abbrev m19_3 : Array Bool := #[Y,Y,Y,Y,Y,Y,Y,Y,Y,Y,Y,Y,Y,Y,Y,Y,Y,Y,Y,Z,Z,Z,Z,Z,Z,Z]
abbrev m20_3 : Array Bool := #[Y,Y,Y,Y,Y,Y,Y,Y,Y,Y,Y,Y,Y,Y,Y,Y,Y,Y,Y,Y,Z,Z,Z,Z,Z,Z]
abbrev m21_3 : Array Bool := #[Y,Y,Y,Y,Y,Y,Y,Y,Y,Y,Y,Y,Y,Y,Y,Y,Y,Y,Y,Y,Z,Y,Z,Z,Z,Z]
abbrev m22_3 : Array Bool := #[Y,Y,Y,Y,Y,Y,Y,Y,Y,Y,Y,Y,Y,Y,Y,Y,Y,Y,Y,Y,Y,Y,Z,Z,Z,Z]
abbrev m23_3 : Array Bool := #[Y,Y,Y,Y,Y,Y,Y,Y,Y,Y,Y,Y,Y,Y,Y,Y,Y,Y,Y,Y,Y,Y,Y,Z,Z,Z]
abbrev m24_3 : Array Bool := #[Y,Y,Y,Y,Y,Y,Y,Y,Y,Y,Y,Y,Y,Y,Y,Y,Y,Y,Y,Y,Y,Y,Y,Y,Z,Z]
abbrev m25_3 : Array Bool := #[Y,Y,Y,Y,Y,Y,Y,Y,Y,Y,Y,Y,Y,Y,Y,Y,Y,Y,Y,Y,Y,Y,Y,Y,Y,Z]
abbrev m26_3 : Array Bool := #[Y,Y,Y,Y,Y,Y,Y,Y,Y,Y,Y,Y,Y,Y,Y,Y,Y,Y,Y,Y,Y,Y,Y,Y,Y,Y]
abbrev m27_3 : Array Bool := #[Y,Y,Y,Y,Y,Y,Y,Y,Y,Y,Y,Y,Y,Y,Y,Y,Y,Y,Y,Y,Y,Z,Z,Z,Z,Z]
/-! ### impl_IsJournal: function 16 -/
def impl_IsJournal.l0 : Nat → List (S44) → Int → Int → List (S44) → Int → Int → Option (Bool)
 | 0,_,_,_,_,_,_ => none
 | k + 1,x0,x3,x4,x7,x8,x9 => if x9 < x8 then (if 0 ≤ x9 then (if x9 < (x7.length : Int) then ((impl_InRange.f ((rd_T44 x7 x9).f0) (wrap64 (x4 + 1)) 10000).bind fun t111 => (if t111 = true then ((impl_InRange.f ((rd_T44 x7 x9).f1) 0 63).bind fun t112 => (if t112 = true then ((impl_InRange.f ((rd_T44 x7 x9).f2) 0 10000).bind fun t113 => (if t113 = true then ((impl_sealOf.f k x3 ((rd_T44 x7 x9).f0) ((rd_T44 x7 x9).f1) ((rd_T44 x7 x9).f2) ((rd_T44 x7 x9).f3)).bind fun t114 => (if ((rd_T44 x7 x9).f3) = t114 then (impl_IsJournal.l0 k x0 ((rd_T44 x7 x9).f3) ((rd_T44 x7 x9).f0) x7 x8 (wrap64 (x9 + 1))) else (some false))) else (some false))) else (some false))) else (some false))) else (none)) else (none)) else (some (decide ((x0.length : Int) ≤ 100)))
def impl_IsJournal.f (k : Nat) (l0 : List (S44)) : Option (Bool) := impl_IsJournal.l0 k l0 0 (-1) l0 (l0.length : Int) 0
theorem impl_IsJournal.mono_l : ∀ k, (∀ y0 y1 y2 y3 y4 y5, LeO (impl_IsJournal.l0 k y0 y1 y2 y3 y4 y5) (impl_IsJournal.l0 (k + 1) y0 y1 y2 y3 y4 y5))
 | 0 => fun _ _ _ _ _ _ r h => by simp [impl_IsJournal.l0] at h
 | k + 1 => by
  have ih0:=impl_IsJournal.mono_l k
  ·intro y0 y1 y2 y3 y4 y5
   unfold impl_IsJournal.l0
   repeat' first
   | (with_reducible exact ih0 _ _ _ _ _ _)
   | (with_reducible exact impl_sealOf.mono _ _ _ _ _ _)
   | (with_reducible exact LeO.refl _)
   | (with_reducible exact LeO.none _)
   | (with_reducible refine LeO.ite ?_ ?_)
   | (with_reducible refine LeO.bind ?_ (fun _ => ?_))
   | exact ih0 _ _ _ _ _ _
   | exact impl_sealOf.mono _ _ _ _ _ _
   | exact LeO.none _
   | refine LeO.ite ?_ ?_
   | refine LeO.bind ?_ (fun _ => ?_)
theorem impl_IsJournal.mono : ∀ a0 k, LeO (impl_IsJournal.f k a0) (impl_IsJournal.f (k + 1) a0) := by
 intro a0 k
 have ih0:=impl_IsJournal.mono_l k
 unfold impl_IsJournal.f
 repeat' first
   | (with_reducible exact ih0 _ _ _ _ _ _)
   | (with_reducible exact impl_sealOf.mono _ _ _ _ _ _)
   | (with_reducible exact LeO.refl _)
   | (with_reducible exact LeO.none _)
   | (with_reducible refine LeO.ite ?_ ?_)
   | (with_reducible refine LeO.bind ?_ (fun _ => ?_))
   | exact ih0 _ _ _ _ _ _
   | exact impl_sealOf.mono _ _ _ _ _ _
   | exact LeO.none _
   | refine LeO.ite ?_ ?_
   | refine LeO.bind ?_ (fun _ => ?_)
def impl_IsJournal.T5 : Bool × List (List Nat × List Nat) := (true, [([], []), ([0], [0]), ([], []), ([2], [2]), ([1, 3], [1, 3]), ([4], [4]), ([5, 4], [5]), ([6], [6]), ([7, 6], [6, 7]), ([8, 6, 6], [6, 8]), ([9, 6], [6, 9]), ([6, 10], [6, 10]), ([11, 9], [11]), ([12], [12]), ([13, 12], [12, 13]), ([14, 12, 12], [12, 14]), ([15, 12], [12, 15]), ([12, 16], [12, 16]), ([17, 15], [17]), ([18], [18]), ([19, 18], [18, 19]), ([18], [18]), ([18], [18]), ([21, 22, 18, 18], [18, 21, 22]), ([20, 23, 18], [18, 20, 23]), ([18, 24], [18, 24])])
def impl_IsJournal.B5 : List Nat := [0, 1, 0, 4, 15, 31, 63, 127, 255, 511, 1023, 2047, 4095, 8191, 16383, 32767, 65535, 131071, 262143, 524287, 1048575, 524287, 524287, 6815743, 16777215, 33554431]
theorem impl_IsJournal.tab5 : rtab .any (opsOf Try.f16 5) = impl_IsJournal.T5 := by kernel_rfl
theorem impl_IsJournal.bits5 : waitsOk impl_IsJournal.T5.2 impl_IsJournal.B5 = true := by kernel_rfl
set_option maxHeartbeats 8000000 in
set_option maxRecDepth 100000 in
theorem impl_IsJournal.calls (k : Nat) (A0 : Option Addr) (c0 : Nat) (l0 : List (S44)) (r : Bool) (w : World) (hr0 : Kd.C k44 w A0 l0.length l0) (hc0 : l0.length ≤ c0) (h : impl_IsJournal.f k l0 = some r) :
  Calls Try.prog 16 #[.slice A0 l0.length c0] w fun e w' => e = .returned (.bool r) ∧ Below w.heap.size w w':=by
 have hu44:=Try.underlying44;have HR0:=am hr0;have HC0:=am hc0;clear hr0 hc0;have HB:=am (Below.refl w.heap.size w);have H : (impl_IsJournal.l0 k l0 0 (-1) l0 (l0.length : Int) 0) = some r:=h;clear h;have H':=am H;clear H
 go_enter Try.func16,Try.ntmps16
 go_wp2
 go_loopg [3,4,9] k (fun kq v3 v4 v9 w' => ∃ (x3_1 : Int) (x4_1 : Int) (x9_1 : Int),v3 = .int .i64 x3_1 ∧ v4 = .int .i64 x4_1 ∧ v9 = .int .i64 x9_1 ∧ Aside0 (impl_IsJournal.l0 kq l0 x3_1 x4_1 l0 (l0.length : Int) x9_1 = some r) ∧ Aside0 (kq ≤ k) ∧ Aside0 (Below w.heap.size w w'))
 case atStart => exact ⟨(0),((-1)),(0),(by first | rfl | (simp;done) | (simp [*];done)),(by first | rfl | (simp;done) | (simp [*];done)),(by first | rfl | (simp;done) | (simp [*];done)),H',⟨Nat.le_refl _⟩,⟨by repeat (first | (with_reducible first | exact HB.out | apply bA | apply bN | apply bD) | exact HB.out)⟩⟩
 case round =>
  clear H'
  try clear c1
  obtain ⟨x3_1,x4_1,x9_1,rfl,rfl,rfl,HA,HK1,HB⟩:=hrel
  cases gk with
  | zero => exact absurd HA.out (by simp [impl_IsJournal.l0])
  | succ k1 =>
   have H:=HA.out;clear HA;simp only [impl_IsJournal.l0] at H
   by_cases c2 : x9_1 < (l0.length : Int)
   ·rw [if_pos c2] at H;have c2b0 : decide (x9_1 < (l0.length : Int)) = true:=decide_eq_true c2;clear c2
    by_cases c3 : 0 ≤ x9_1
    ·rw [if_pos c3] at H;have c3b0 : decide (0 ≤ x9_1) = true:=decide_eq_true c3;clear c3
     by_cases c4 : x9_1 < (l0.length : Int)
     ·rw [if_pos c4] at H;have c4b0 : decide (x9_1 < (l0.length : Int)) = true:=decide_eq_true c4;clear c4;replace H:=bS.mp H;obtain ⟨t111,A50,H⟩:=H;replace H : (if t111 = true then ((impl_InRange.f ((rd_T44 l0 x9_1).f1) 0 63).bind fun t112 => (if t112 = true then ((impl_InRange.f ((rd_T44 l0 x9_1).f2) 0 10000).bind fun t113 => (if t113 = true then ((impl_sealOf.f k1 x3_1 ((rd_T44 l0 x9_1).f0) ((rd_T44 l0 x9_1).f1) ((rd_T44 l0 x9_1).f2) ((rd_T44 l0 x9_1).f3)).bind fun t114 => (if ((rd_T44 l0 x9_1).f3) = t114 then (impl_IsJournal.l0 k1 l0 ((rd_T44 l0 x9_1).f3) ((rd_T44 l0 x9_1).f0) l0 (l0.length : Int) (wrap64 (x9_1 + 1))) else (some false))) else (some false))) else (some false))) else (some false)) = some r:=H;have A5:=am A50;clear A50
      by_cases c6 : t111 = true
      ·subst c6;have H1 : ((impl_InRange.f ((rd_T44 l0 x9_1).f1) 0 63).bind fun t112 => (if t112 = true then ((impl_InRange.f ((rd_T44 l0 x9_1).f2) 0 10000).bind fun t113 => (if t113 = true then ((impl_sealOf.f k1 x3_1 ((rd_T44 l0 x9_1).f0) ((rd_T44 l0 x9_1).f1) ((rd_T44 l0 x9_1).f2) ((rd_T44 l0 x9_1).f3)).bind fun t114 => (if ((rd_T44 l0 x9_1).f3) = t114 then (impl_IsJournal.l0 k1 l0 ((rd_T44 l0 x9_1).f3) ((rd_T44 l0 x9_1).f0) l0 (l0.length : Int) (wrap64 (x9_1 + 1))) else (some false))) else (some false))) else (some false))) = some r:=by rw [if_pos rfl] at H;exact H
       clear H;have H:=H1;clear H1;replace H:=bS.mp H;obtain ⟨t112,A70,H⟩:=H;replace H : (if t112 = true then ((impl_InRange.f ((rd_T44 l0 x9_1).f2) 0 10000).bind fun t113 => (if t113 = true then ((impl_sealOf.f k1 x3_1 ((rd_T44 l0 x9_1).f0) ((rd_T44 l0 x9_1).f1) ((rd_T44 l0 x9_1).f2) ((rd_T44 l0 x9_1).f3)).bind fun t114 => (if ((rd_T44 l0 x9_1).f3) = t114 then (impl_IsJournal.l0 k1 l0 ((rd_T44 l0 x9_1).f3) ((rd_T44 l0 x9_1).f0) l0 (l0.length : Int) (wrap64 (x9_1 + 1))) else (some false))) else (some false))) else (some false)) = some r:=H;have A7:=am A70;clear A70
       by_cases c8 : t112 = true
       ·subst c8;have H1 : ((impl_InRange.f ((rd_T44 l0 x9_1).f2) 0 10000).bind fun t113 => (if t113 = true then ((impl_sealOf.f k1 x3_1 ((rd_T44 l0 x9_1).f0) ((rd_T44 l0 x9_1).f1) ((rd_T44 l0 x9_1).f2) ((rd_T44 l0 x9_1).f3)).bind fun t114 => (if ((rd_T44 l0 x9_1).f3) = t114 then (impl_IsJournal.l0 k1 l0 ((rd_T44 l0 x9_1).f3) ((rd_T44 l0 x9_1).f0) l0 (l0.length : Int) (wrap64 (x9_1 + 1))) else (some false))) else (some false))) = some r:=by rw [if_pos rfl] at H;exact H
        clear H;have H:=H1;clear H1;replace H:=bS.mp H;obtain ⟨t113,A90,H⟩:=H;replace H : (if t113 = true then ((impl_sealOf.f k1 x3_1 ((rd_T44 l0 x9_1).f0) ((rd_T44 l0 x9_1).f1) ((rd_T44 l0 x9_1).f2) ((rd_T44 l0 x9_1).f3)).bind fun t114 => (if ((rd_T44 l0 x9_1).f3) = t114 then (impl_IsJournal.l0 k1 l0 ((rd_T44 l0 x9_1).f3) ((rd_T44 l0 x9_1).f0) l0 (l0.length : Int) (wrap64 (x9_1 + 1))) else (some false))) else (some false)) = some r:=H;have A9:=am A90;clear A90
        by_cases c10 : t113 = true
        ·subst c10;have H1 : ((impl_sealOf.f k1 x3_1 ((rd_T44 l0 x9_1).f0) ((rd_T44 l0 x9_1).f1) ((rd_T44 l0 x9_1).f2) ((rd_T44 l0 x9_1).f3)).bind fun t114 => (if ((rd_T44 l0 x9_1).f3) = t114 then (impl_IsJournal.l0 k1 l0 ((rd_T44 l0 x9_1).f3) ((rd_T44 l0 x9_1).f0) l0 (l0.length : Int) (wrap64 (x9_1 + 1))) else (some false))) = some r:=by rw [if_pos rfl] at H;exact H
         clear H;have H:=H1;clear H1;replace H:=bS.mp H;obtain ⟨t114,A110,H⟩:=H;replace H : (if ((rd_T44 l0 x9_1).f3) = t114 then (impl_IsJournal.l0 k1 l0 ((rd_T44 l0 x9_1).f3) ((rd_T44 l0 x9_1).f0) l0 (l0.length : Int) (wrap64 (x9_1 + 1))) else (some false)) = some r:=H;have A11:=am A110;clear A110
         by_cases c12 : ((rd_T44 l0 x9_1).f3) = t114
         ·rw [if_pos c12] at H;have c12b0 : (((rd_T44 l0 x9_1).f3) == t114) = true:=beq_iff_eq.mpr c12;have c12b1 : (((rd_T44 l0 x9_1).f3) != t114) = false:=bne_eq_false_iff_eq.mpr c12;clear c12;have H':=am H;clear H;have p109 : 0 ≤ (x9_1 : Int):=odt (by first | (with_reducible assumption) | assumption);have q109 : x9_1 < (l0.length : Int):=odt (by first | (with_reducible assumption) | assumption);obtain ⟨ad109,e109,hx109_0,hx109_1,hx109_2,hx109_3⟩:=at_T44 HR0.out x9_1 p109 q109
          cases e109
          replace hx109_0:=(ct HB.out hx109_0 :)
          replace hx109_1:=(ct HB.out hx109_1 :)
          replace hx109_2:=(ct HB.out hx109_2 :)
          replace hx109_3:=(ct HB.out hx109_3 :)
          replace p109:=eq_true p109;replace q109:=eq_true q109
          try go_wp2_with (first | ((with_reducible refine gate_dst (N:=6) rfl ?_);refine box_event ?hg (N:=6) ?hd (cs:=#[.int .i64 0,.int .i64 0,.int .i64 0,.int .i64 0]) (t:=44) ?hr ?_;(case hd => rfl);(case hg => rfl);(case hr => first | (go_simp;done) | (go_simp;rfl));intro gb110 hg w13 hbox hb;have n0_:=am (below_step (by repeat (first | (with_reducible first | exact HB.out | apply bA | apply bN | apply bD) | exact HB.out)) hb);have n1_:=am (hbox);have n2_:=am ((by rw [hg];exact (below_size (by repeat (first | (with_reducible first | exact HB.out | apply bA | apply bN | apply bD) | exact HB.out))) : w.heap.size ≤ gb110));have n3_:=am ((by rw [hg];exact (below_size (by repeat (first | (with_reducible first | exact HB.out | apply bA | apply bN | apply bD) | exact HB.out))) : w.heap.size ≤ gb110));clear HB;have HB:=n0_;have BK110:=n1_;have GW110:=n2_;have GE110:=n3_;clear n0_ n1_ n2_ n3_;clear hb hbox hg;have hcz14_0 : w13.cell? ⟨gb110,0,none⟩ = some (.int .i64 0):=(blk_cell BK110.out 0).trans rfl;have hcz14_1 : w13.cell? ⟨gb110,1,none⟩ = some (.int .i64 0):=(blk_cell BK110.out 1).trans rfl;have hcz14_2 : w13.cell? ⟨gb110,2,none⟩ = some (.int .i64 0):=(blk_cell BK110.out 2).trans rfl;have hcz14_3 : w13.cell? ⟨gb110,3,none⟩ = some (.int .i64 0):=(blk_cell BK110.out 3).trans rfl;have hfz14_0:=blk_frozen BK110.out 0;have hfz14_1:=blk_frozen BK110.out 1;have hfz14_2:=blk_frozen BK110.out 2;have hfz14_3:=blk_frozen BK110.out 3))
          have n0_ : Aside0 (((((w13.setCell ⟨gb110,0,none⟩ (.int .i64 ((rd_T44 l0 x9_1).f0))).setCell ⟨gb110,1,none⟩ (.int .i64 ((rd_T44 l0 x9_1).f1))).setCell ⟨gb110,2,none⟩ (.int .i64 ((rd_T44 l0 x9_1).f2))).setCell ⟨gb110,3,none⟩ (.int .i64 ((rd_T44 l0 x9_1).f3))).heap[gb110]? = some (.cells #[.int .i64 ((rd_T44 l0 x9_1).f0),.int .i64 ((rd_T44 l0 x9_1).f1),.int .i64 ((rd_T44 l0 x9_1).f2),.int .i64 ((rd_T44 l0 x9_1).f3)] 44 (0,0))):=⟨by (with_reducible repeat (first | refine dN ?_ _ | refine dD ?_ | refine dA ?_ _));refine blk_put (cs:=#[.int .i64 ((rd_T44 l0 x9_1).f0),.int .i64 ((rd_T44 l0 x9_1).f1),.int .i64 ((rd_T44 l0 x9_1).f2),.int .i64 0]) ?_ 3 _ rfl;(with_reducible repeat (first | refine dN ?_ _ | refine dD ?_ | refine dA ?_ _));refine blk_put (cs:=#[.int .i64 ((rd_T44 l0 x9_1).f0),.int .i64 ((rd_T44 l0 x9_1).f1),.int .i64 0,.int .i64 0]) ?_ 2 _ rfl;(with_reducible repeat (first | refine dN ?_ _ | refine dD ?_ | refine dA ?_ _));refine blk_put (cs:=#[.int .i64 ((rd_T44 l0 x9_1).f0),.int .i64 0,.int .i64 0,.int .i64 0]) ?_ 1 _ rfl;(with_reducible repeat (first | refine dN ?_ _ | refine dD ?_ | refine dA ?_ _));refine blk_put (cs:=#[.int .i64 0,.int .i64 0,.int .i64 0,.int .i64 0]) ?_ 0 _ rfl;(with_reducible repeat (first | refine dN ?_ _ | refine dD ?_ | refine dA ?_ _));exact BK110.out⟩
          have n1_ : Aside0 (Below w.heap.size w ((((w13.setCell ⟨gb110,0,none⟩ (.int .i64 ((rd_T44 l0 x9_1).f0))).setCell ⟨gb110,1,none⟩ (.int .i64 ((rd_T44 l0 x9_1).f1))).setCell ⟨gb110,2,none⟩ (.int .i64 ((rd_T44 l0 x9_1).f2))).setCell ⟨gb110,3,none⟩ (.int .i64 ((rd_T44 l0 x9_1).f3)))):=⟨by repeat (first | (with_reducible first | exact HB.out | apply bA | apply bN | apply bD | refine below_set ?_ GE110.out) | exact HB.out)⟩
          (try clear BK110);(try clear HB)
          generalize ((((w13.setCell ⟨gb110,0,none⟩ (.int .i64 ((rd_T44 l0 x9_1).f0))).setCell ⟨gb110,1,none⟩ (.int .i64 ((rd_T44 l0 x9_1).f1))).setCell ⟨gb110,2,none⟩ (.int .i64 ((rd_T44 l0 x9_1).f2))).setCell ⟨gb110,3,none⟩ (.int .i64 ((rd_T44 l0 x9_1).f3))) = w15 at n0_ n1_ ⊢
          have BK110:=n0_;have HB:=n1_;clear n0_ n1_;have n0_:=am (blk_drew BK110.out);have n1_:=am (below_drew1 HB.out);clear BK110;clear HB;have BK110:=n0_;have HB:=n1_;clear n0_ n1_;refine start_ (n:=26) (S:=fun w' => w'.cell? ⟨gb110,0,none⟩ = some (.int .i64 ((rd_T44 l0 x9_1).f0)) ∧ w'.cell? ⟨gb110,1,none⟩ = some (.int .i64 ((rd_T44 l0 x9_1).f1)) ∧ w'.cell? ⟨gb110,2,none⟩ = some (.int .i64 ((rd_T44 l0 x9_1).f2)) ∧ w'.cell? ⟨gb110,3,none⟩ = some (.int .i64 ((rd_T44 l0 x9_1).f3))) (ds:=[]) m0_3 (by kernel_rfl) rfl rfl ⟨(blk_cell BK110.out 0).trans rfl,(blk_cell BK110.out 1).trans rfl,(blk_cell BK110.out 2).trans rfl,(blk_cell BK110.out 3).trans rfl⟩ (fun hHeld => ?_);refine with_tabW impl_IsJournal.tab5 impl_IsJournal.bits5 (fun HT_ HW_ => ?_)
          generalize w15.drew = w16 at BK110 HB hHeld ⊢
          refine pure_ (i:=0) (N:=some 13) (v:=?_) (a':=?_) m1_3 rfl rfl (any_of HT_.out (by kernel_rfl)) (fun _ _ _ h => h) (Or.inl ⟨by rfl,?_⟩) ?_ ?_;rotate_left;intro w';go_simp;(with_reducible rfl);rotate_left;simp only [Act.put,sA,s0,s1,i64_w,i32_w];rfl
          refine pure_ (i:=2) (N:=some 15) (v:=?_) (a':=?_) m2_3 rfl rfl (any_of HT_.out (by kernel_rfl)) (fun _ _ _ h => h) (Or.inl ⟨by rfl,?_⟩) ?_ ?_;rotate_left;intro w';go_simp;(with_reducible rfl);rotate_left;simp only [Act.put,sA,s0,s1,i64_w,i32_w];rfl
          refine pure_ (i:=3) (N:=some 16) (v:=?_) (a':=?_) m3_3 rfl rfl (any_of HT_.out (by kernel_rfl)) (fun _ _ _ h => h) (Or.inl ⟨by rfl,?_⟩) ?_ ?_;rotate_left;intro w';go_simp;(with_reducible rfl);rotate_left;simp only [Act.put,sA,s0,s1,i64_w,i32_w];rfl
          refine take_ (i:=1) (N:=some 14) (v:=?_) (a':=?_) m4_3 rfl rfl (take_ofW HT_.out HW_.out (by kernel_rfl)) (fun _ _ _ h => h) (Or.inl ⟨by rfl,?_⟩) hHeld ?_ ?_;rotate_left
          ·rintro w' ⟨s0,s1,s2,s3⟩
           go_simp;with_reducible rfl
          rotate_left
          ·simp only [Act.put,sA,s0,s1,i64_w,i32_w];rfl
          refine one_ (i:=4) (N:=some 17) m5_3 rfl rfl (one_of HT_.out (by kernel_rfl)) (by decide) (fun K hK => ?_);refine goes_ Try.func54 (by kernel_rfl) rfl #[.int .i64 ((rd_T44 l0 x9_1).f0),.int .i64 (wrap64 (x4_1 + 1)),.int .i64 10000] (by rfl) rfl rfl (by (try simp only [List.map_toArray,List.map_cons,List.map_nil]);first | done | rfl | (simp only [List.length_drop,List.length_take];rfl)) ?_;with_reducible refine (impl_InRange.calls ((rd_T44 l0 x9_1).f0) (wrap64 (x4_1 + 1)) 10000 true _ A5.out).mono ?_
          rintro e w' ⟨rfl,⟨nd,rfl⟩⟩
          refine ⟨_,rfl,?_⟩;refine hK.out _ _ ⟨(blk_cell BK110.out 0).trans rfl,(blk_cell BK110.out 1).trans rfl,(blk_cell BK110.out 2).trans rfl,(blk_cell BK110.out 3).trans rfl⟩ (fun hHeld => ?_);clear hK K;refine norm_ (a':=?_) ?_ ?_;rotate_left
          ·show Act.put _ (some 17) _ = _
           simp only [Act.put,sA,s0,s1,i64_w,i32_w];rfl
          refine pure_ (i:=5) (N:=some 18) (v:=?_) (a':=?_) m6_3 rfl rfl (any_of HT_.out (by kernel_rfl)) (fun _ _ _ h => h) (Or.inl ⟨by rfl,?_⟩) ?_ ?_;rotate_left;intro w';go_simp;(with_reducible rfl);rotate_left;simp only [Act.put,sA,s0,s1,i64_w,i32_w];rfl
          refine pure_ (i:=6) (N:=some 19) (v:=?_) (a':=?_) m7_3 rfl rfl (any_of HT_.out (by kernel_rfl)) (fun _ _ _ h => h) (Or.inl ⟨by rfl,?_⟩) ?_ ?_;rotate_left;intro w';go_simp;(with_reducible rfl);rotate_left;simp only [Act.put,sA,s0,s1,i64_w,i32_w];rfl
          refine pure_ (i:=7) (N:=some 20) (v:=?_) (a':=?_) m8_3 rfl rfl (any_of HT_.out (by kernel_rfl)) (fun _ _ _ h => h) (Or.inl ⟨by rfl,?_⟩) ?_ ?_;rotate_left;intro w';go_simp;(with_reducible rfl);rotate_left;simp only [Act.put,sA,s0,s1,i64_w,i32_w];rfl
          refine take_ (i:=8) (N:=some 21) (v:=?_) (a':=?_) m9_3 rfl rfl (take_ofW HT_.out HW_.out (by kernel_rfl)) (fun _ _ _ h => h) (Or.inl ⟨by rfl,?_⟩) hHeld ?_ ?_;rotate_left
          ·rintro w' ⟨s0,s1,s2,s3⟩
           go_simp;with_reducible rfl
          rotate_left
          ·simp only [Act.put,sA,s0,s1,i64_w,i32_w];rfl
          refine one_ (i:=9) (N:=some 22) m10_3 rfl rfl (one_of HT_.out (by kernel_rfl)) (by decide) (fun K hK => ?_);refine goes_ Try.func54 (by kernel_rfl) rfl #[.int .i64 ((rd_T44 l0 x9_1).f1),.int .i64 0,.int .i64 63] (by rfl) rfl rfl (by (try simp only [List.map_toArray,List.map_cons,List.map_nil]);first | done | rfl | (simp only [List.length_drop,List.length_take];rfl)) ?_;with_reducible refine (impl_InRange.calls ((rd_T44 l0 x9_1).f1) 0 63 true _ A7.out).mono ?_
          rintro e w' ⟨rfl,⟨nd,rfl⟩⟩
          refine ⟨_,rfl,?_⟩;refine hK.out _ _ ⟨(blk_cell BK110.out 0).trans rfl,(blk_cell BK110.out 1).trans rfl,(blk_cell BK110.out 2).trans rfl,(blk_cell BK110.out 3).trans rfl⟩ (fun hHeld => ?_);clear hK K;refine norm_ (a':=?_) ?_ ?_;rotate_left
          ·show Act.put _ (some 22) _ = _
           simp only [Act.put,sA,s0,s1,i64_w,i32_w];rfl
          refine pure_ (i:=10) (N:=some 23) (v:=?_) (a':=?_) m11_3 rfl rfl (any_of HT_.out (by kernel_rfl)) (fun _ _ _ h => h) (Or.inl ⟨by rfl,?_⟩) ?_ ?_;rotate_left;intro w';go_simp;(with_reducible rfl);rotate_left;simp only [Act.put,sA,s0,s1,i64_w,i32_w];rfl
          refine pure_ (i:=11) (N:=some 24) (v:=?_) (a':=?_) m12_3 rfl rfl (any_of HT_.out (by kernel_rfl)) (fun _ _ _ h => h) (Or.inl ⟨by rfl,?_⟩) ?_ ?_;rotate_left;intro w';go_simp;(with_reducible rfl);rotate_left;simp only [Act.put,sA,s0,s1,i64_w,i32_w];rfl
          refine pure_ (i:=12) (N:=some 25) (v:=?_) (a':=?_) m13_3 rfl rfl (any_of HT_.out (by kernel_rfl)) (fun _ _ _ h => h) (Or.inl ⟨by rfl,?_⟩) ?_ ?_;rotate_left;intro w';go_simp;(with_reducible rfl);rotate_left;simp only [Act.put,sA,s0,s1,i64_w,i32_w];rfl
          refine pure_ (i:=13) (N:=some 26) (v:=?_) (a':=?_) m14_3 rfl rfl (any_of HT_.out (by kernel_rfl)) (fun _ _ _ h => h) (Or.inl ⟨by rfl,?_⟩) ?_ ?_;rotate_left;intro w';go_simp;(with_reducible rfl);rotate_left;simp only [Act.put,sA,s0,s1,i64_w,i32_w];rfl
          refine take_ (i:=14) (N:=some 27) (v:=?_) (a':=?_) m15_3 rfl rfl (take_ofW HT_.out HW_.out (by kernel_rfl)) (fun _ _ _ h => h) (Or.inl ⟨by rfl,?_⟩) hHeld ?_ ?_;rotate_left
          ·rintro w' ⟨s0,s1,s2,s3⟩
           go_simp;with_reducible rfl
          rotate_left
          ·simp only [Act.put,sA,s0,s1,i64_w,i32_w];rfl
          refine one_ (i:=15) (N:=some 28) m16_3 rfl rfl (one_of HT_.out (by kernel_rfl)) (by decide) (fun K hK => ?_);refine goes_ Try.func54 (by kernel_rfl) rfl #[.int .i64 ((rd_T44 l0 x9_1).f2),.int .i64 0,.int .i64 10000] (by rfl) rfl rfl (by (try simp only [List.map_toArray,List.map_cons,List.map_nil]);first | done | rfl | (simp only [List.length_drop,List.length_take];rfl)) ?_;with_reducible refine (impl_InRange.calls ((rd_T44 l0 x9_1).f2) 0 10000 true _ A9.out).mono ?_
          rintro e w' ⟨rfl,⟨nd,rfl⟩⟩
          refine ⟨_,rfl,?_⟩;refine hK.out _ _ ⟨(blk_cell BK110.out 0).trans rfl,(blk_cell BK110.out 1).trans rfl,(blk_cell BK110.out 2).trans rfl,(blk_cell BK110.out 3).trans rfl⟩ (fun hHeld => ?_);clear hK K;refine norm_ (a':=?_) ?_ ?_;rotate_left
          ·show Act.put _ (some 28) _ = _
           simp only [Act.put,sA,s0,s1,i64_w,i32_w];rfl
          refine pure_ (i:=16) (N:=some 29) (v:=?_) (a':=?_) m17_3 rfl rfl (any_of HT_.out (by kernel_rfl)) (fun _ _ _ h => h) (Or.inl ⟨by rfl,?_⟩) ?_ ?_;rotate_left;intro w';go_simp;(with_reducible rfl);rotate_left;simp only [Act.put,sA,s0,s1,i64_w,i32_w];rfl
          refine pure_ (i:=17) (N:=some 30) (v:=?_) (a':=?_) m18_3 rfl rfl (any_of HT_.out (by kernel_rfl)) (fun _ _ _ h => h) (Or.inl ⟨by rfl,?_⟩) ?_ ?_;rotate_left;intro w';go_simp;(with_reducible rfl);rotate_left;simp only [Act.put,sA,s0,s1,i64_w,i32_w];rfl
          refine pure_ (i:=18) (N:=some 31) (v:=?_) (a':=?_) m19_3 rfl rfl (any_of HT_.out (by kernel_rfl)) (fun _ _ _ h => h) (Or.inl ⟨by rfl,?_⟩) ?_ ?_;rotate_left;intro w';go_simp;(with_reducible rfl);rotate_left;simp only [Act.put,sA,s0,s1,i64_w,i32_w];rfl
          refine pure_ (i:=19) (N:=some 32) (v:=?_) (a':=?_) m20_3 rfl rfl (any_of HT_.out (by kernel_rfl)) (fun _ _ _ h => h) (Or.inl ⟨by rfl,?_⟩) ?_ ?_;rotate_left;intro w';go_simp;(with_reducible rfl);rotate_left;simp only [Act.put,sA,s0,s1,i64_w,i32_w];rfl
          refine pure_ (i:=21) (N:=some 34) (v:=?_) (a':=?_) m21_3 rfl rfl (any_of HT_.out (by kernel_rfl)) (fun _ _ _ h => h) (Or.inl ⟨by rfl,?_⟩) ?_ ?_;rotate_left;intro w';go_simp;(with_reducible rfl);rotate_left;simp only [Act.put,sA,s0,s1,i64_w,i32_w];rfl
          refine take_ (i:=20) (N:=some 33) (v:=?_) (a':=?_) m22_3 rfl rfl (take_ofW HT_.out HW_.out (by kernel_rfl)) (fun _ _ _ h => h) (Or.inl ⟨by rfl,?_⟩) hHeld ?_ ?_;rotate_left
          ·rintro w' ⟨s0,s1,s2,s3⟩
           go_simp;with_reducible rfl
          rotate_left
          ·simp only [Act.put,sA,s0,s1,i64_w,i32_w];rfl
          refine take_ (i:=22) (N:=some 35) (v:=?_) (a':=?_) m23_3 rfl rfl (take_ofW HT_.out HW_.out (by kernel_rfl)) (fun _ _ _ h => h) (Or.inl ⟨by rfl,?_⟩) hHeld ?_ ?_;rotate_left
          ·rintro w' ⟨s0,s1,s2,s3⟩
           go_simp;with_reducible rfl
          rotate_left
          ·simp only [Act.put,sA,s0,s1,i64_w,i32_w];rfl
          refine one_ (i:=23) (N:=some 36) m24_3 rfl rfl (one_of HT_.out (by kernel_rfl)) (by decide) (fun K hK => ?_);refine goes_ Try.func55 (by kernel_rfl) rfl #[.int .i64 x3_1,.agg #[.int .i64 ((rd_T44 l0 x9_1).f0),.int .i64 ((rd_T44 l0 x9_1).f1),.int .i64 ((rd_T44 l0 x9_1).f2),.int .i64 ((rd_T44 l0 x9_1).f3)]] (by rfl) rfl rfl (by (try simp only [List.map_toArray,List.map_cons,List.map_nil]);first | done | rfl | (simp only [List.length_drop,List.length_take];rfl)) ?_;with_reducible refine (impl_sealOf.calls k1 x3_1 ((rd_T44 l0 x9_1).f0) ((rd_T44 l0 x9_1).f1) ((rd_T44 l0 x9_1).f2) ((rd_T44 l0 x9_1).f3) t114 _ A11.out).mono ?_
          rintro e w17 ⟨rfl,hb⟩
          refine ⟨_,rfl,?_⟩;have n0_:=am (blk_below (g:=gb110) (o:=.cells #[.int .i64 ((rd_T44 l0 x9_1).f0),.int .i64 ((rd_T44 l0 x9_1).f1),.int .i64 ((rd_T44 l0 x9_1).f2),.int .i64 ((rd_T44 l0 x9_1).f3)] 44 (0,0)) (by (with_reducible repeat (first | refine dN ?_ _ | refine dD ?_ | refine dA ?_ _));exact BK110.out) hb);have n1_:=am (below_step (by repeat (first | (with_reducible first | exact HB.out | apply bA | apply bN | apply bD | refine below_set ?_ GE110.out) | exact HB.out)) hb);clear BK110;clear HB;have BK110:=n0_;have HB:=n1_;clear n0_ n1_;(try clear hb);(try clear hb2);(try clear hk);(try clear hi);refine hK.out _ _ ⟨(blk_cell BK110.out 0).trans rfl,(blk_cell BK110.out 1).trans rfl,(blk_cell BK110.out 2).trans rfl,(blk_cell BK110.out 3).trans rfl⟩ (fun hHeld => ?_);clear hK K;refine norm_ (a':=?_) ?_ ?_;rotate_left
          ·show Act.put _ (some 36) _ = _
           simp only [Act.put,sA,s0,s1,i64_w,i32_w];rfl
          refine pure_ (i:=24) (N:=some 37) (v:=?_) (a':=?_) m25_3 rfl rfl (any_of HT_.out (by kernel_rfl)) (fun _ _ _ h => h) (Or.inl ⟨by rfl,?_⟩) ?_ ?_;rotate_left;intro w';go_simp;(with_reducible rfl);rotate_left;simp only [Act.put,sA,s0,s1,i64_w,i32_w];rfl
          refine pure_ (i:=25) (N:=some 38) (v:=?_) (a':=?_) m26_3 rfl rfl (any_of HT_.out (by kernel_rfl)) (fun _ _ _ h => h) (Or.inl ⟨by rfl,?_⟩) ?_ ?_;rotate_left;intro w';go_simp;(with_reducible rfl);rotate_left;simp only [Act.put,sA,s0,s1,i64_w,i32_w];rfl
          refine done_ (done_of HT_.out (by kernel_rfl)) ?_
          try go_wp2
          have n0_:=am (blk_drew BK110.out);have n1_:=am (below_drew1 HB.out);clear BK110;clear HB;have BK110:=n0_;have HB:=n1_;clear n0_ n1_;refine start_ (n:=6) (S:=fun w' => w'.cell? ⟨gb110,0,none⟩ = some (.int .i64 ((rd_T44 l0 x9_1).f0)) ∧ w'.cell? ⟨gb110,1,none⟩ = some (.int .i64 ((rd_T44 l0 x9_1).f1)) ∧ w'.cell? ⟨gb110,2,none⟩ = some (.int .i64 ((rd_T44 l0 x9_1).f2)) ∧ w'.cell? ⟨gb110,3,none⟩ = some (.int .i64 ((rd_T44 l0 x9_1).f3))) (ds:=[]) #[Z,Z,Z,Z,Z,Z] (by kernel_rfl) rfl rfl ⟨(blk_cell BK110.out 0).trans rfl,(blk_cell BK110.out 1).trans rfl,(blk_cell BK110.out 2).trans rfl,(blk_cell BK110.out 3).trans rfl⟩ (fun hHeld => ?_)
          generalize w17.drew = w18 at BK110 HB hHeld ⊢
          refine pure_ (i:=0) (N:=some 39) (v:=?_) (a':=?_) #[Y,Z,Z,Z,Z,Z] rfl rfl (by kernel_rfl) (fun _ _ _ h => h) (Or.inl ⟨by rfl,?_⟩) ?_ ?_;rotate_left;intro w';go_simp;(with_reducible rfl);rotate_left;simp only [Act.put,sA,s0,s1,i64_w,i32_w];rfl
          refine pure_ (i:=2) (N:=some 41) (v:=?_) (a':=?_) #[Y,Z,Y,Z,Z,Z] rfl rfl (by kernel_rfl) (fun _ _ _ h => h) (Or.inl ⟨by rfl,?_⟩) ?_ ?_;rotate_left;intro w';go_simp;(with_reducible rfl);rotate_left;simp only [Act.put,sA,s0,s1,i64_w,i32_w];rfl
          refine take_ (i:=1) (N:=some 40) (v:=?_) (a':=?_) #[Y,Y,Y,Z,Z,Z] rfl rfl (by kernel_rfl) (fun _ _ _ h => h) (Or.inl ⟨by rfl,?_⟩) hHeld ?_ ?_;rotate_left
          ·rintro w' ⟨s0,s1,s2,s3⟩
           go_simp;with_reducible rfl
          rotate_left
          ·simp only [Act.put,sA,s0,s1,i64_w,i32_w];rfl
          refine pure_ (i:=4) (N:=some 3) (v:=?_) (a':=?_) #[Y,Y,Y,Z,Y,Z] rfl rfl (by kernel_rfl) (fun _ _ _ h => h) (Or.inl ⟨by rfl,?_⟩) ?_ ?_;rotate_left;intro w';go_simp;(with_reducible rfl);rotate_left;simp only [Act.put,sA,s0,s1,i64_w,i32_w];rfl
          refine take_ (i:=3) (N:=some 42) (v:=?_) (a':=?_) #[Y,Y,Y,Y,Y,Z] rfl rfl (by kernel_rfl) (fun _ _ _ h => h) (Or.inl ⟨by rfl,?_⟩) hHeld ?_ ?_;rotate_left
          ·rintro w' ⟨s0,s1,s2,s3⟩
           go_simp;with_reducible rfl
          rotate_left
          ·simp only [Act.put,sA,s0,s1,i64_w,i32_w];rfl
          refine pure_ (i:=5) (N:=some 4) (v:=?_) (a':=?_) #[Y,Y,Y,Y,Y,Y] rfl rfl (by kernel_rfl) (fun _ _ _ h => h) (Or.inl ⟨by rfl,?_⟩) ?_ ?_;rotate_left;intro w';go_simp;(with_reducible rfl);rotate_left;simp only [Act.put,sA,s0,s1,i64_w,i32_w];rfl
          refine done_ (by kernel_rfl) ?_
          try go_wp2
          go_roundg k1
          case measure => have:=HK1.out;omega
          case rel => exact ⟨((rd_T44 l0 x9_1).f3),((rd_T44 l0 x9_1).f0),(wrap64 (x9_1 + 1)),(by first | rfl | (simp;done) | (simp [*];done)),(by first | rfl | (simp;done) | (simp [*];done)),(by first | rfl | (simp;done) | (simp [*];done)),H',⟨by have:=HK1.out;omega⟩,⟨by repeat (first | (with_reducible first | exact HB.out | apply bA | apply bN | apply bD | refine below_set ?_ GE110.out) | exact HB.out)⟩⟩
         ·rw [if_neg c12] at H;have c12b0 : (((rd_T44 l0 x9_1).f3) == t114) = false:=beq_eq_false_iff_ne.mpr c12;have c12b1 : (((rd_T44 l0 x9_1).f3) != t114) = true:=bne_iff_ne.mpr c12;obtain rfl:=Option.some.inj H;have p109 : 0 ≤ (x9_1 : Int):=odt (by first | (with_reducible assumption) | assumption);have q109 : x9_1 < (l0.length : Int):=odt (by first | (with_reducible assumption) | assumption);obtain ⟨ad109,e109,hx109_0,hx109_1,hx109_2,hx109_3⟩:=at_T44 HR0.out x9_1 p109 q109
          cases e109
          replace hx109_0:=(ct HB.out hx109_0 :)
          replace hx109_1:=(ct HB.out hx109_1 :)
          replace hx109_2:=(ct HB.out hx109_2 :)
          replace hx109_3:=(ct HB.out hx109_3 :)
          replace p109:=eq_true p109;replace q109:=eq_true q109
          try go_wp2_with (first | ((with_reducible refine gate_dst (N:=6) rfl ?_);refine box_event ?hg (N:=6) ?hd (cs:=#[.int .i64 0,.int .i64 0,.int .i64 0,.int .i64 0]) (t:=44) ?hr ?_;(case hd => rfl);(case hg => rfl);(case hr => first | (go_simp;done) | (go_simp;rfl));intro gb110 hg w19 hbox hb;have n0_:=am (below_step (by repeat (first | (with_reducible first | exact HB.out | apply bA | apply bN | apply bD) | exact HB.out)) hb);have n1_:=am (hbox);have n2_:=am ((by rw [hg];exact (below_size (by repeat (first | (with_reducible first | exact HB.out | apply bA | apply bN | apply bD) | exact HB.out))) : w.heap.size ≤ gb110));have n3_:=am ((by rw [hg];exact (below_size (by repeat (first | (with_reducible first | exact HB.out | apply bA | apply bN | apply bD) | exact HB.out))) : w.heap.size ≤ gb110));clear HB;have HB:=n0_;have BK110:=n1_;have GW110:=n2_;have GE110:=n3_;clear n0_ n1_ n2_ n3_;clear hb hbox hg;have hcz20_0 : w19.cell? ⟨gb110,0,none⟩ = some (.int .i64 0):=(blk_cell BK110.out 0).trans rfl;have hcz20_1 : w19.cell? ⟨gb110,1,none⟩ = some (.int .i64 0):=(blk_cell BK110.out 1).trans rfl;have hcz20_2 : w19.cell? ⟨gb110,2,none⟩ = some (.int .i64 0):=(blk_cell BK110.out 2).trans rfl;have hcz20_3 : w19.cell? ⟨gb110,3,none⟩ = some (.int .i64 0):=(blk_cell BK110.out 3).trans rfl;have hfz20_0:=blk_frozen BK110.out 0;have hfz20_1:=blk_frozen BK110.out 1;have hfz20_2:=blk_frozen BK110.out 2;have hfz20_3:=blk_frozen BK110.out 3))
          have n0_ : Aside0 (((((w19.setCell ⟨gb110,0,none⟩ (.int .i64 ((rd_T44 l0 x9_1).f0))).setCell ⟨gb110,1,none⟩ (.int .i64 ((rd_T44 l0 x9_1).f1))).setCell ⟨gb110,2,none⟩ (.int .i64 ((rd_T44 l0 x9_1).f2))).setCell ⟨gb110,3,none⟩ (.int .i64 ((rd_T44 l0 x9_1).f3))).heap[gb110]? = some (.cells #[.int .i64 ((rd_T44 l0 x9_1).f0),.int .i64 ((rd_T44 l0 x9_1).f1),.int .i64 ((rd_T44 l0 x9_1).f2),.int .i64 ((rd_T44 l0 x9_1).f3)] 44 (0,0))):=⟨by (with_reducible repeat (first | refine dN ?_ _ | refine dD ?_ | refine dA ?_ _));refine blk_put (cs:=#[.int .i64 ((rd_T44 l0 x9_1).f0),.int .i64 ((rd_T44 l0 x9_1).f1),.int .i64 ((rd_T44 l0 x9_1).f2),.int .i64 0]) ?_ 3 _ rfl;(with_reducible repeat (first | refine dN ?_ _ | refine dD ?_ | refine dA ?_ _));refine blk_put (cs:=#[.int .i64 ((rd_T44 l0 x9_1).f0),.int .i64 ((rd_T44 l0 x9_1).f1),.int .i64 0,.int .i64 0]) ?_ 2 _ rfl;(with_reducible repeat (first | refine dN ?_ _ | refine dD ?_ | refine dA ?_ _));refine blk_put (cs:=#[.int .i64 ((rd_T44 l0 x9_1).f0),.int .i64 0,.int .i64 0,.int .i64 0]) ?_ 1 _ rfl;(with_reducible repeat (first | refine dN ?_ _ | refine dD ?_ | refine dA ?_ _));refine blk_put (cs:=#[.int .i64 0,.int .i64 0,.int .i64 0,.int .i64 0]) ?_ 0 _ rfl;(with_reducible repeat (first | refine dN ?_ _ | refine dD ?_ | refine dA ?_ _));exact BK110.out⟩
          have n1_ : Aside0 (Below w.heap.size w ((((w19.setCell ⟨gb110,0,none⟩ (.int .i64 ((rd_T44 l0 x9_1).f0))).setCell ⟨gb110,1,none⟩ (.int .i64 ((rd_T44 l0 x9_1).f1))).setCell ⟨gb110,2,none⟩ (.int .i64 ((rd_T44 l0 x9_1).f2))).setCell ⟨gb110,3,none⟩ (.int .i64 ((rd_T44 l0 x9_1).f3)))):=⟨by repeat (first | (with_reducible first | exact HB.out | apply bA | apply bN | apply bD | refine below_set ?_ GE110.out) | exact HB.out)⟩
          (try clear BK110);(try clear HB)
          generalize ((((w19.setCell ⟨gb110,0,none⟩ (.int .i64 ((rd_T44 l0 x9_1).f0))).setCell ⟨gb110,1,none⟩ (.int .i64 ((rd_T44 l0 x9_1).f1))).setCell ⟨gb110,2,none⟩ (.int .i64 ((rd_T44 l0 x9_1).f2))).setCell ⟨gb110,3,none⟩ (.int .i64 ((rd_T44 l0 x9_1).f3))) = w21 at n0_ n1_ ⊢
          have BK110:=n0_;have HB:=n1_;clear n0_ n1_;have n0_:=am (blk_drew BK110.out);have n1_:=am (below_drew1 HB.out);clear BK110;clear HB;have BK110:=n0_;have HB:=n1_;clear n0_ n1_;refine start_ (n:=26) (S:=fun w' => w'.cell? ⟨gb110,0,none⟩ = some (.int .i64 ((rd_T44 l0 x9_1).f0)) ∧ w'.cell? ⟨gb110,1,none⟩ = some (.int .i64 ((rd_T44 l0 x9_1).f1)) ∧ w'.cell? ⟨gb110,2,none⟩ = some (.int .i64 ((rd_T44 l0 x9_1).f2)) ∧ w'.cell? ⟨gb110,3,none⟩ = some (.int .i64 ((rd_T44 l0 x9_1).f3))) (ds:=[]) m0_3 (by kernel_rfl) rfl rfl ⟨(blk_cell BK110.out 0).trans rfl,(blk_cell BK110.out 1).trans rfl,(blk_cell BK110.out 2).trans rfl,(blk_cell BK110.out 3).trans rfl⟩ (fun hHeld => ?_);refine with_tabW impl_IsJournal.tab5 impl_IsJournal.bits5 (fun HT_ HW_ => ?_)
          generalize w21.drew = w22 at BK110 HB hHeld ⊢
          refine pure_ (i:=0) (N:=some 13) (v:=?_) (a':=?_) m1_3 rfl rfl (any_of HT_.out (by kernel_rfl)) (fun _ _ _ h => h) (Or.inl ⟨by rfl,?_⟩) ?_ ?_;rotate_left;intro w';go_simp;(with_reducible rfl);rotate_left;simp only [Act.put,sA,s0,s1,i64_w,i32_w];rfl
          refine pure_ (i:=2) (N:=some 15) (v:=?_) (a':=?_) m2_3 rfl rfl (any_of HT_.out (by kernel_rfl)) (fun _ _ _ h => h) (Or.inl ⟨by rfl,?_⟩) ?_ ?_;rotate_left;intro w';go_simp;(with_reducible rfl);rotate_left;simp only [Act.put,sA,s0,s1,i64_w,i32_w];rfl
          refine pure_ (i:=3) (N:=some 16) (v:=?_) (a':=?_) m3_3 rfl rfl (any_of HT_.out (by kernel_rfl)) (fun _ _ _ h => h) (Or.inl ⟨by rfl,?_⟩) ?_ ?_;rotate_left;intro w';go_simp;(with_reducible rfl);rotate_left;simp only [Act.put,sA,s0,s1,i64_w,i32_w];rfl
          refine take_ (i:=1) (N:=some 14) (v:=?_) (a':=?_) m4_3 rfl rfl (take_ofW HT_.out HW_.out (by kernel_rfl)) (fun _ _ _ h => h) (Or.inl ⟨by rfl,?_⟩) hHeld ?_ ?_;rotate_left
          ·rintro w' ⟨s0,s1,s2,s3⟩
           go_simp;with_reducible rfl
          rotate_left
          ·simp only [Act.put,sA,s0,s1,i64_w,i32_w];rfl
          refine one_ (i:=4) (N:=some 17) m5_3 rfl rfl (one_of HT_.out (by kernel_rfl)) (by decide) (fun K hK => ?_);refine goes_ Try.func54 (by kernel_rfl) rfl #[.int .i64 ((rd_T44 l0 x9_1).f0),.int .i64 (wrap64 (x4_1 + 1)),.int .i64 10000] (by rfl) rfl rfl (by (try simp only [List.map_toArray,List.map_cons,List.map_nil]);first | done | rfl | (simp only [List.length_drop,List.length_take];rfl)) ?_;with_reducible refine (impl_InRange.calls ((rd_T44 l0 x9_1).f0) (wrap64 (x4_1 + 1)) 10000 true _ A5.out).mono ?_
          rintro e w' ⟨rfl,⟨nd,rfl⟩⟩
          refine ⟨_,rfl,?_⟩;refine hK.out _ _ ⟨(blk_cell BK110.out 0).trans rfl,(blk_cell BK110.out 1).trans rfl,(blk_cell BK110.out 2).trans rfl,(blk_cell BK110.out 3).trans rfl⟩ (fun hHeld => ?_);clear hK K;refine norm_ (a':=?_) ?_ ?_;rotate_left
          ·show Act.put _ (some 17) _ = _
           simp only [Act.put,sA,s0,s1,i64_w,i32_w];rfl
          refine pure_ (i:=5) (N:=some 18) (v:=?_) (a':=?_) m6_3 rfl rfl (any_of HT_.out (by kernel_rfl)) (fun _ _ _ h => h) (Or.inl ⟨by rfl,?_⟩) ?_ ?_;rotate_left;intro w';go_simp;(with_reducible rfl);rotate_left;simp only [Act.put,sA,s0,s1,i64_w,i32_w];rfl
          refine pure_ (i:=6) (N:=some 19) (v:=?_) (a':=?_) m7_3 rfl rfl (any_of HT_.out (by kernel_rfl)) (fun _ _ _ h => h) (Or.inl ⟨by rfl,?_⟩) ?_ ?_;rotate_left;intro w';go_simp;(with_reducible rfl);rotate_left;simp only [Act.put,sA,s0,s1,i64_w,i32_w];rfl
          refine pure_ (i:=7) (N:=some 20) (v:=?_) (a':=?_) m8_3 rfl rfl (any_of HT_.out (by kernel_rfl)) (fun _ _ _ h => h) (Or.inl ⟨by rfl,?_⟩) ?_ ?_;rotate_left;intro w';go_simp;(with_reducible rfl);rotate_left;simp only [Act.put,sA,s0,s1,i64_w,i32_w];rfl
          refine take_ (i:=8) (N:=some 21) (v:=?_) (a':=?_) m9_3 rfl rfl (take_ofW HT_.out HW_.out (by kernel_rfl)) (fun _ _ _ h => h) (Or.inl ⟨by rfl,?_⟩) hHeld ?_ ?_;rotate_left
          ·rintro w' ⟨s0,s1,s2,s3⟩
           go_simp;with_reducible rfl
          rotate_left
          ·simp only [Act.put,sA,s0,s1,i64_w,i32_w];rfl
          refine one_ (i:=9) (N:=some 22) m10_3 rfl rfl (one_of HT_.out (by kernel_rfl)) (by decide) (fun K hK => ?_);refine goes_ Try.func54 (by kernel_rfl) rfl #[.int .i64 ((rd_T44 l0 x9_1).f1),.int .i64 0,.int .i64 63] (by rfl) rfl rfl (by (try simp only [List.map_toArray,List.map_cons,List.map_nil]);first | done | rfl | (simp only [List.length_drop,List.length_take];rfl)) ?_;with_reducible refine (impl_InRange.calls ((rd_T44 l0 x9_1).f1) 0 63 true _ A7.out).mono ?_
          rintro e w' ⟨rfl,⟨nd,rfl⟩⟩
          refine ⟨_,rfl,?_⟩;refine hK.out _ _ ⟨(blk_cell BK110.out 0).trans rfl,(blk_cell BK110.out 1).trans rfl,(blk_cell BK110.out 2).trans rfl,(blk_cell BK110.out 3).trans rfl⟩ (fun hHeld => ?_);clear hK K;refine norm_ (a':=?_) ?_ ?_;rotate_left
          ·show Act.put _ (some 22) _ = _
           simp only [Act.put,sA,s0,s1,i64_w,i32_w];rfl
          refine pure_ (i:=10) (N:=some 23) (v:=?_) (a':=?_) m11_3 rfl rfl (any_of HT_.out (by kernel_rfl)) (fun _ _ _ h => h) (Or.inl ⟨by rfl,?_⟩) ?_ ?_;rotate_left;intro w';go_simp;(with_reducible rfl);rotate_left;simp only [Act.put,sA,s0,s1,i64_w,i32_w];rfl
          refine pure_ (i:=11) (N:=some 24) (v:=?_) (a':=?_) m12_3 rfl rfl (any_of HT_.out (by kernel_rfl)) (fun _ _ _ h => h) (Or.inl ⟨by rfl,?_⟩) ?_ ?_;rotate_left;intro w';go_simp;(with_reducible rfl);rotate_left;simp only [Act.put,sA,s0,s1,i64_w,i32_w];rfl
          refine pure_ (i:=12) (N:=some 25) (v:=?_) (a':=?_) m13_3 rfl rfl (any_of HT_.out (by kernel_rfl)) (fun _ _ _ h => h) (Or.inl ⟨by rfl,?_⟩) ?_ ?_;rotate_left;intro w';go_simp;(with_reducible rfl);rotate_left;simp only [Act.put,sA,s0,s1,i64_w,i32_w];rfl
          refine pure_ (i:=13) (N:=some 26) (v:=?_) (a':=?_) m14_3 rfl rfl (any_of HT_.out (by kernel_rfl)) (fun _ _ _ h => h) (Or.inl ⟨by rfl,?_⟩) ?_ ?_;rotate_left;intro w';go_simp;(with_reducible rfl);rotate_left;simp only [Act.put,sA,s0,s1,i64_w,i32_w];rfl
          refine take_ (i:=14) (N:=some 27) (v:=?_) (a':=?_) m15_3 rfl rfl (take_ofW HT_.out HW_.out (by kernel_rfl)) (fun _ _ _ h => h) (Or.inl ⟨by rfl,?_⟩) hHeld ?_ ?_;rotate_left
          ·rintro w' ⟨s0,s1,s2,s3⟩
           go_simp;with_reducible rfl
          rotate_left
          ·simp only [Act.put,sA,s0,s1,i64_w,i32_w];rfl
          refine one_ (i:=15) (N:=some 28) m16_3 rfl rfl (one_of HT_.out (by kernel_rfl)) (by decide) (fun K hK => ?_);refine goes_ Try.func54 (by kernel_rfl) rfl #[.int .i64 ((rd_T44 l0 x9_1).f2),.int .i64 0,.int .i64 10000] (by rfl) rfl rfl (by (try simp only [List.map_toArray,List.map_cons,List.map_nil]);first | done | rfl | (simp only [List.length_drop,List.length_take];rfl)) ?_;with_reducible refine (impl_InRange.calls ((rd_T44 l0 x9_1).f2) 0 10000 true _ A9.out).mono ?_
          rintro e w' ⟨rfl,⟨nd,rfl⟩⟩
          refine ⟨_,rfl,?_⟩;refine hK.out _ _ ⟨(blk_cell BK110.out 0).trans rfl,(blk_cell BK110.out 1).trans rfl,(blk_cell BK110.out 2).trans rfl,(blk_cell BK110.out 3).trans rfl⟩ (fun hHeld => ?_);clear hK K;refine norm_ (a':=?_) ?_ ?_;rotate_left
          ·show Act.put _ (some 28) _ = _
           simp only [Act.put,sA,s0,s1,i64_w,i32_w];rfl
          refine pure_ (i:=16) (N:=some 29) (v:=?_) (a':=?_) m17_3 rfl rfl (any_of HT_.out (by kernel_rfl)) (fun _ _ _ h => h) (Or.inl ⟨by rfl,?_⟩) ?_ ?_;rotate_left;intro w';go_simp;(with_reducible rfl);rotate_left;simp only [Act.put,sA,s0,s1,i64_w,i32_w];rfl
          refine pure_ (i:=17) (N:=some 30) (v:=?_) (a':=?_) m18_3 rfl rfl (any_of HT_.out (by kernel_rfl)) (fun _ _ _ h => h) (Or.inl ⟨by rfl,?_⟩) ?_ ?_;rotate_left;intro w';go_simp;(with_reducible rfl);rotate_left;simp only [Act.put,sA,s0,s1,i64_w,i32_w];rfl
          refine pure_ (i:=18) (N:=some 31) (v:=?_) (a':=?_) m19_3 rfl rfl (any_of HT_.out (by kernel_rfl)) (fun _ _ _ h => h) (Or.inl ⟨by rfl,?_⟩) ?_ ?_;rotate_left;intro w';go_simp;(with_reducible rfl);rotate_left;simp only [Act.put,sA,s0,s1,i64_w,i32_w];rfl
          refine pure_ (i:=19) (N:=some 32) (v:=?_) (a':=?_) m20_3 rfl rfl (any_of HT_.out (by kernel_rfl)) (fun _ _ _ h => h) (Or.inl ⟨by rfl,?_⟩) ?_ ?_;rotate_left;intro w';go_simp;(with_reducible rfl);rotate_left;simp only [Act.put,sA,s0,s1,i64_w,i32_w];rfl
          refine pure_ (i:=21) (N:=some 34) (v:=?_) (a':=?_) m21_3 rfl rfl (any_of HT_.out (by kernel_rfl)) (fun _ _ _ h => h) (Or.inl ⟨by rfl,?_⟩) ?_ ?_;rotate_left;intro w';go_simp;(with_reducible rfl);rotate_left;simp only [Act.put,sA,s0,s1,i64_w,i32_w];rfl
          refine take_ (i:=20) (N:=some 33) (v:=?_) (a':=?_) m22_3 rfl rfl (take_ofW HT_.out HW_.out (by kernel_rfl)) (fun _ _ _ h => h) (Or.inl ⟨by rfl,?_⟩) hHeld ?_ ?_;rotate_left
          ·rintro w' ⟨s0,s1,s2,s3⟩
           go_simp;with_reducible rfl
          rotate_left
          ·simp only [Act.put,sA,s0,s1,i64_w,i32_w];rfl
          refine take_ (i:=22) (N:=some 35) (v:=?_) (a':=?_) m23_3 rfl rfl (take_ofW HT_.out HW_.out (by kernel_rfl)) (fun _ _ _ h => h) (Or.inl ⟨by rfl,?_⟩) hHeld ?_ ?_;rotate_left
          ·rintro w' ⟨s0,s1,s2,s3⟩
           go_simp;with_reducible rfl
          rotate_left
          ·simp only [Act.put,sA,s0,s1,i64_w,i32_w];rfl
          refine one_ (i:=23) (N:=some 36) m24_3 rfl rfl (one_of HT_.out (by kernel_rfl)) (by decide) (fun K hK => ?_);refine goes_ Try.func55 (by kernel_rfl) rfl #[.int .i64 x3_1,.agg #[.int .i64 ((rd_T44 l0 x9_1).f0),.int .i64 ((rd_T44 l0 x9_1).f1),.int .i64 ((rd_T44 l0 x9_1).f2),.int .i64 ((rd_T44 l0 x9_1).f3)]] (by rfl) rfl rfl (by (try simp only [List.map_toArray,List.map_cons,List.map_nil]);first | done | rfl | (simp only [List.length_drop,List.length_take];rfl)) ?_;with_reducible refine (impl_sealOf.calls k1 x3_1 ((rd_T44 l0 x9_1).f0) ((rd_T44 l0 x9_1).f1) ((rd_T44 l0 x9_1).f2) ((rd_T44 l0 x9_1).f3) t114 _ A11.out).mono ?_
          rintro e w23 ⟨rfl,hb⟩
          refine ⟨_,rfl,?_⟩;have n0_:=am (blk_below (g:=gb110) (o:=.cells #[.int .i64 ((rd_T44 l0 x9_1).f0),.int .i64 ((rd_T44 l0 x9_1).f1),.int .i64 ((rd_T44 l0 x9_1).f2),.int .i64 ((rd_T44 l0 x9_1).f3)] 44 (0,0)) (by (with_reducible repeat (first | refine dN ?_ _ | refine dD ?_ | refine dA ?_ _));exact BK110.out) hb);have n1_:=am (below_step (by repeat (first | (with_reducible first | exact HB.out | apply bA | apply bN | apply bD | refine below_set ?_ GE110.out) | exact HB.out)) hb);clear BK110;clear HB;have BK110:=n0_;have HB:=n1_;clear n0_ n1_;(try clear hb);(try clear hb2);(try clear hk);(try clear hi);refine hK.out _ _ ⟨(blk_cell BK110.out 0).trans rfl,(blk_cell BK110.out 1).trans rfl,(blk_cell BK110.out 2).trans rfl,(blk_cell BK110.out 3).trans rfl⟩ (fun hHeld => ?_);clear hK K;refine norm_ (a':=?_) ?_ ?_;rotate_left
          ·show Act.put _ (some 36) _ = _
           simp only [Act.put,sA,s0,s1,i64_w,i32_w];rfl
          refine pure_ (i:=24) (N:=some 37) (v:=?_) (a':=?_) m25_3 rfl rfl (any_of HT_.out (by kernel_rfl)) (fun _ _ _ h => h) (Or.inl ⟨by rfl,?_⟩) ?_ ?_;rotate_left;intro w';go_simp;(with_reducible rfl);rotate_left;simp only [Act.put,sA,s0,s1,i64_w,i32_w];rfl
          refine pure_ (i:=25) (N:=some 38) (v:=?_) (a':=?_) m26_3 rfl rfl (any_of HT_.out (by kernel_rfl)) (fun _ _ _ h => h) (Or.inl ⟨by rfl,?_⟩) ?_ ?_;rotate_left;intro w';go_simp;(with_reducible rfl);rotate_left;simp only [Act.put,sA,s0,s1,i64_w,i32_w];rfl
          refine done_ (done_of HT_.out (by kernel_rfl)) ?_
          try go_wp2
          go_ret
          exact ⟨by first | rfl | (simp [errW_none,errW_some] <;> rfl) | (simp [*,errW_none,errW_some] <;> rfl),by repeat (first | (with_reducible first | exact HB.out | apply bA | apply bN | apply bD | refine below_set ?_ GE110.out) | exact HB.out)⟩
        ·replace c10:=Bool.eq_false_iff.mpr c10;subst c10;have H1 : (some false) = some r:=by rw [if_neg (show ¬ (false = true) by decide)] at H;exact H
         clear H;have H:=H1;clear H1;obtain rfl:=Option.some.inj H;have p109 : 0 ≤ (x9_1 : Int):=odt (by first | (with_reducible assumption) | assumption);have q109 : x9_1 < (l0.length : Int):=odt (by first | (with_reducible assumption) | assumption);obtain ⟨ad109,e109,hx109_0,hx109_1,hx109_2,hx109_3⟩:=at_T44 HR0.out x9_1 p109 q109
         cases e109
         replace hx109_0:=(ct HB.out hx109_0 :)
         replace hx109_1:=(ct HB.out hx109_1 :)
         replace hx109_2:=(ct HB.out hx109_2 :)
         replace hx109_3:=(ct HB.out hx109_3 :)
         replace p109:=eq_true p109;replace q109:=eq_true q109
         try go_wp2_with (first | ((with_reducible refine gate_dst (N:=6) rfl ?_);refine box_event ?hg (N:=6) ?hd (cs:=#[.int .i64 0,.int .i64 0,.int .i64 0,.int .i64 0]) (t:=44) ?hr ?_;(case hd => rfl);(case hg => rfl);(case hr => first | (go_simp;done) | (go_simp;rfl));intro gb110 hg w24 hbox hb;have n0_:=am (below_step (by repeat (first | (with_reducible first | exact HB.out | apply bA | apply bN | apply bD) | exact HB.out)) hb);have n1_:=am (hbox);have n2_:=am ((by rw [hg];exact (below_size (by repeat (first | (with_reducible first | exact HB.out | apply bA | apply bN | apply bD) | exact HB.out))) : w.heap.size ≤ gb110));have n3_:=am ((by rw [hg];exact (below_size (by repeat (first | (with_reducible first | exact HB.out | apply bA | apply bN | apply bD) | exact HB.out))) : w.heap.size ≤ gb110));clear HB;have HB:=n0_;have BK110:=n1_;have GW110:=n2_;have GE110:=n3_;clear n0_ n1_ n2_ n3_;clear hb hbox hg;have hcz25_0 : w24.cell? ⟨gb110,0,none⟩ = some (.int .i64 0):=(blk_cell BK110.out 0).trans rfl;have hcz25_1 : w24.cell? ⟨gb110,1,none⟩ = some (.int .i64 0):=(blk_cell BK110.out 1).trans rfl;have hcz25_2 : w24.cell? ⟨gb110,2,none⟩ = some (.int .i64 0):=(blk_cell BK110.out 2).trans rfl;have hcz25_3 : w24.cell? ⟨gb110,3,none⟩ = some (.int .i64 0):=(blk_cell BK110.out 3).trans rfl;have hfz25_0:=blk_frozen BK110.out 0;have hfz25_1:=blk_frozen BK110.out 1;have hfz25_2:=blk_frozen BK110.out 2;have hfz25_3:=blk_frozen BK110.out 3))
         have n0_ : Aside0 (((((w24.setCell ⟨gb110,0,none⟩ (.int .i64 ((rd_T44 l0 x9_1).f0))).setCell ⟨gb110,1,none⟩ (.int .i64 ((rd_T44 l0 x9_1).f1))).setCell ⟨gb110,2,none⟩ (.int .i64 ((rd_T44 l0 x9_1).f2))).setCell ⟨gb110,3,none⟩ (.int .i64 ((rd_T44 l0 x9_1).f3))).heap[gb110]? = some (.cells #[.int .i64 ((rd_T44 l0 x9_1).f0),.int .i64 ((rd_T44 l0 x9_1).f1),.int .i64 ((rd_T44 l0 x9_1).f2),.int .i64 ((rd_T44 l0 x9_1).f3)] 44 (0,0))):=⟨by (with_reducible repeat (first | refine dN ?_ _ | refine dD ?_ | refine dA ?_ _));refine blk_put (cs:=#[.int .i64 ((rd_T44 l0 x9_1).f0),.int .i64 ((rd_T44 l0 x9_1).f1),.int .i64 ((rd_T44 l0 x9_1).f2),.int .i64 0]) ?_ 3 _ rfl;(with_reducible repeat (first | refine dN ?_ _ | refine dD ?_ | refine dA ?_ _));refine blk_put (cs:=#[.int .i64 ((rd_T44 l0 x9_1).f0),.int .i64 ((rd_T44 l0 x9_1).f1),.int .i64 0,.int .i64 0]) ?_ 2 _ rfl;(with_reducible repeat (first | refine dN ?_ _ | refine dD ?_ | refine dA ?_ _));refine blk_put (cs:=#[.int .i64 ((rd_T44 l0 x9_1).f0),.int .i64 0,.int .i64 0,.int .i64 0]) ?_ 1 _ rfl;(with_reducible repeat (first | refine dN ?_ _ | refine dD ?_ | refine dA ?_ _));refine blk_put (cs:=#[.int .i64 0,.int .i64 0,.int .i64 0,.int .i64 0]) ?_ 0 _ rfl;(with_reducible repeat (first | refine dN ?_ _ | refine dD ?_ | refine dA ?_ _));exact BK110.out⟩
         have n1_ : Aside0 (Below w.heap.size w ((((w24.setCell ⟨gb110,0,none⟩ (.int .i64 ((rd_T44 l0 x9_1).f0))).setCell ⟨gb110,1,none⟩ (.int .i64 ((rd_T44 l0 x9_1).f1))).setCell ⟨gb110,2,none⟩ (.int .i64 ((rd_T44 l0 x9_1).f2))).setCell ⟨gb110,3,none⟩ (.int .i64 ((rd_T44 l0 x9_1).f3)))):=⟨by repeat (first | (with_reducible first | exact HB.out | apply bA | apply bN | apply bD | refine below_set ?_ GE110.out) | exact HB.out)⟩
         (try clear BK110);(try clear HB)
         generalize ((((w24.setCell ⟨gb110,0,none⟩ (.int .i64 ((rd_T44 l0 x9_1).f0))).setCell ⟨gb110,1,none⟩ (.int .i64 ((rd_T44 l0 x9_1).f1))).setCell ⟨gb110,2,none⟩ (.int .i64 ((rd_T44 l0 x9_1).f2))).setCell ⟨gb110,3,none⟩ (.int .i64 ((rd_T44 l0 x9_1).f3))) = w26 at n0_ n1_ ⊢
         have BK110:=n0_;have HB:=n1_;clear n0_ n1_;have n0_:=am (blk_drew BK110.out);have n1_:=am (below_drew1 HB.out);clear BK110;clear HB;have BK110:=n0_;have HB:=n1_;clear n0_ n1_;refine start_ (n:=26) (S:=fun w' => w'.cell? ⟨gb110,0,none⟩ = some (.int .i64 ((rd_T44 l0 x9_1).f0)) ∧ w'.cell? ⟨gb110,1,none⟩ = some (.int .i64 ((rd_T44 l0 x9_1).f1)) ∧ w'.cell? ⟨gb110,2,none⟩ = some (.int .i64 ((rd_T44 l0 x9_1).f2)) ∧ w'.cell? ⟨gb110,3,none⟩ = some (.int .i64 ((rd_T44 l0 x9_1).f3))) (ds:=[]) m0_3 (by kernel_rfl) rfl rfl ⟨(blk_cell BK110.out 0).trans rfl,(blk_cell BK110.out 1).trans rfl,(blk_cell BK110.out 2).trans rfl,(blk_cell BK110.out 3).trans rfl⟩ (fun hHeld => ?_);refine with_tabW impl_IsJournal.tab5 impl_IsJournal.bits5 (fun HT_ HW_ => ?_)
         generalize w26.drew = w27 at BK110 HB hHeld ⊢
         refine pure_ (i:=0) (N:=some 13) (v:=?_) (a':=?_) m1_3 rfl rfl (any_of HT_.out (by kernel_rfl)) (fun _ _ _ h => h) (Or.inl ⟨by rfl,?_⟩) ?_ ?_;rotate_left;intro w';go_simp;(with_reducible rfl);rotate_left;simp only [Act.put,sA,s0,s1,i64_w,i32_w];rfl
         refine pure_ (i:=2) (N:=some 15) (v:=?_) (a':=?_) m2_3 rfl rfl (any_of HT_.out (by kernel_rfl)) (fun _ _ _ h => h) (Or.inl ⟨by rfl,?_⟩) ?_ ?_;rotate_left;intro w';go_simp;(with_reducible rfl);rotate_left;simp only [Act.put,sA,s0,s1,i64_w,i32_w];rfl
         refine pure_ (i:=3) (N:=some 16) (v:=?_) (a':=?_) m3_3 rfl rfl (any_of HT_.out (by kernel_rfl)) (fun _ _ _ h => h) (Or.inl ⟨by rfl,?_⟩) ?_ ?_;rotate_left;intro w';go_simp;(with_reducible rfl);rotate_left;simp only [Act.put,sA,s0,s1,i64_w,i32_w];rfl
         refine take_ (i:=1) (N:=some 14) (v:=?_) (a':=?_) m4_3 rfl rfl (take_ofW HT_.out HW_.out (by kernel_rfl)) (fun _ _ _ h => h) (Or.inl ⟨by rfl,?_⟩) hHeld ?_ ?_;rotate_left
         ·rintro w' ⟨s0,s1,s2,s3⟩
          go_simp;with_reducible rfl
         rotate_left
         ·simp only [Act.put,sA,s0,s1,i64_w,i32_w];rfl
         refine one_ (i:=4) (N:=some 17) m5_3 rfl rfl (one_of HT_.out (by kernel_rfl)) (by decide) (fun K hK => ?_);refine goes_ Try.func54 (by kernel_rfl) rfl #[.int .i64 ((rd_T44 l0 x9_1).f0),.int .i64 (wrap64 (x4_1 + 1)),.int .i64 10000] (by rfl) rfl rfl (by (try simp only [List.map_toArray,List.map_cons,List.map_nil]);first | done | rfl | (simp only [List.length_drop,List.length_take];rfl)) ?_;with_reducible refine (impl_InRange.calls ((rd_T44 l0 x9_1).f0) (wrap64 (x4_1 + 1)) 10000 true _ A5.out).mono ?_
         rintro e w' ⟨rfl,⟨nd,rfl⟩⟩
         refine ⟨_,rfl,?_⟩;refine hK.out _ _ ⟨(blk_cell BK110.out 0).trans rfl,(blk_cell BK110.out 1).trans rfl,(blk_cell BK110.out 2).trans rfl,(blk_cell BK110.out 3).trans rfl⟩ (fun hHeld => ?_);clear hK K;refine norm_ (a':=?_) ?_ ?_;rotate_left
         ·show Act.put _ (some 17) _ = _
          simp only [Act.put,sA,s0,s1,i64_w,i32_w];rfl
         refine pure_ (i:=5) (N:=some 18) (v:=?_) (a':=?_) m6_3 rfl rfl (any_of HT_.out (by kernel_rfl)) (fun _ _ _ h => h) (Or.inl ⟨by rfl,?_⟩) ?_ ?_;rotate_left;intro w';go_simp;(with_reducible rfl);rotate_left;simp only [Act.put,sA,s0,s1,i64_w,i32_w];rfl
         refine pure_ (i:=6) (N:=some 19) (v:=?_) (a':=?_) m7_3 rfl rfl (any_of HT_.out (by kernel_rfl)) (fun _ _ _ h => h) (Or.inl ⟨by rfl,?_⟩) ?_ ?_;rotate_left;intro w';go_simp;(with_reducible rfl);rotate_left;simp only [Act.put,sA,s0,s1,i64_w,i32_w];rfl
         refine pure_ (i:=7) (N:=some 20) (v:=?_) (a':=?_) m8_3 rfl rfl (any_of HT_.out (by kernel_rfl)) (fun _ _ _ h => h) (Or.inl ⟨by rfl,?_⟩) ?_ ?_;rotate_left;intro w';go_simp;(with_reducible rfl);rotate_left;simp only [Act.put,sA,s0,s1,i64_w,i32_w];rfl
         refine take_ (i:=8) (N:=some 21) (v:=?_) (a':=?_) m9_3 rfl rfl (take_ofW HT_.out HW_.out (by kernel_rfl)) (fun _ _ _ h => h) (Or.inl ⟨by rfl,?_⟩) hHeld ?_ ?_;rotate_left
         ·rintro w' ⟨s0,s1,s2,s3⟩
          go_simp;with_reducible rfl
         rotate_left
         ·simp only [Act.put,sA,s0,s1,i64_w,i32_w];rfl
         refine one_ (i:=9) (N:=some 22) m10_3 rfl rfl (one_of HT_.out (by kernel_rfl)) (by decide) (fun K hK => ?_);refine goes_ Try.func54 (by kernel_rfl) rfl #[.int .i64 ((rd_T44 l0 x9_1).f1),.int .i64 0,.int .i64 63] (by rfl) rfl rfl (by (try simp only [List.map_toArray,List.map_cons,List.map_nil]);first | done | rfl | (simp only [List.length_drop,List.length_take];rfl)) ?_;with_reducible refine (impl_InRange.calls ((rd_T44 l0 x9_1).f1) 0 63 true _ A7.out).mono ?_
         rintro e w' ⟨rfl,⟨nd,rfl⟩⟩
         refine ⟨_,rfl,?_⟩;refine hK.out _ _ ⟨(blk_cell BK110.out 0).trans rfl,(blk_cell BK110.out 1).trans rfl,(blk_cell BK110.out 2).trans rfl,(blk_cell BK110.out 3).trans rfl⟩ (fun hHeld => ?_);clear hK K;refine norm_ (a':=?_) ?_ ?_;rotate_left
         ·show Act.put _ (some 22) _ = _
          simp only [Act.put,sA,s0,s1,i64_w,i32_w];rfl
         refine pure_ (i:=10) (N:=some 23) (v:=?_) (a':=?_) m11_3 rfl rfl (any_of HT_.out (by kernel_rfl)) (fun _ _ _ h => h) (Or.inl ⟨by rfl,?_⟩) ?_ ?_;rotate_left;intro w';go_simp;(with_reducible rfl);rotate_left;simp only [Act.put,sA,s0,s1,i64_w,i32_w];rfl
         refine pure_ (i:=11) (N:=some 24) (v:=?_) (a':=?_) m12_3 rfl rfl (any_of HT_.out (by kernel_rfl)) (fun _ _ _ h => h) (Or.inl ⟨by rfl,?_⟩) ?_ ?_;rotate_left;intro w';go_simp;(with_reducible rfl);rotate_left;simp only [Act.put,sA,s0,s1,i64_w,i32_w];rfl
         refine pure_ (i:=12) (N:=some 25) (v:=?_) (a':=?_) m13_3 rfl rfl (any_of HT_.out (by kernel_rfl)) (fun _ _ _ h => h) (Or.inl ⟨by rfl,?_⟩) ?_ ?_;rotate_left;intro w';go_simp;(with_reducible rfl);rotate_left;simp only [Act.put,sA,s0,s1,i64_w,i32_w];rfl
         refine pure_ (i:=13) (N:=some 26) (v:=?_) (a':=?_) m14_3 rfl rfl (any_of HT_.out (by kernel_rfl)) (fun _ _ _ h => h) (Or.inl ⟨by rfl,?_⟩) ?_ ?_;rotate_left;intro w';go_simp;(with_reducible rfl);rotate_left;simp only [Act.put,sA,s0,s1,i64_w,i32_w];rfl
         refine take_ (i:=14) (N:=some 27) (v:=?_) (a':=?_) m15_3 rfl rfl (take_ofW HT_.out HW_.out (by kernel_rfl)) (fun _ _ _ h => h) (Or.inl ⟨by rfl,?_⟩) hHeld ?_ ?_;rotate_left
         ·rintro w' ⟨s0,s1,s2,s3⟩
          go_simp;with_reducible rfl
         rotate_left
         ·simp only [Act.put,sA,s0,s1,i64_w,i32_w];rfl
         refine one_ (i:=15) (N:=some 28) m16_3 rfl rfl (one_of HT_.out (by kernel_rfl)) (by decide) (fun K hK => ?_);refine goes_ Try.func54 (by kernel_rfl) rfl #[.int .i64 ((rd_T44 l0 x9_1).f2),.int .i64 0,.int .i64 10000] (by rfl) rfl rfl (by (try simp only [List.map_toArray,List.map_cons,List.map_nil]);first | done | rfl | (simp only [List.length_drop,List.length_take];rfl)) ?_;with_reducible refine (impl_InRange.calls ((rd_T44 l0 x9_1).f2) 0 10000 false _ A9.out).mono ?_
         rintro e w' ⟨rfl,⟨nd,rfl⟩⟩
         refine ⟨_,rfl,?_⟩;refine hK.out _ _ ⟨(blk_cell BK110.out 0).trans rfl,(blk_cell BK110.out 1).trans rfl,(blk_cell BK110.out 2).trans rfl,(blk_cell BK110.out 3).trans rfl⟩ (fun hHeld => ?_);clear hK K;refine norm_ (a':=?_) ?_ ?_;rotate_left
         ·show Act.put _ (some 28) _ = _
          simp only [Act.put,sA,s0,s1,i64_w,i32_w];rfl
         refine pure_ (i:=16) (N:=some 29) (v:=?_) (a':=?_) m17_3 rfl rfl (any_of HT_.out (by kernel_rfl)) (fun _ _ _ h => h) (Or.inl ⟨by rfl,?_⟩) ?_ ?_;rotate_left;intro w';go_simp;(with_reducible rfl);rotate_left;simp only [Act.put,sA,s0,s1,i64_w,i32_w];rfl
         refine pure_ (i:=17) (N:=some 30) (v:=?_) (a':=?_) m18_3 rfl rfl (any_of HT_.out (by kernel_rfl)) (fun _ _ _ h => h) (Or.inl ⟨by rfl,?_⟩) ?_ ?_;rotate_left;intro w';go_simp;(with_reducible rfl);rotate_left;simp only [Act.put,sA,s0,s1,i64_w,i32_w];rfl
         refine pure_ (i:=18) (N:=some 31) (v:=?_) (a':=?_) m19_3 rfl rfl (any_of HT_.out (by kernel_rfl)) (fun _ _ _ h => h) (Or.inl ⟨by rfl,?_⟩) ?_ ?_;rotate_left;intro w';go_simp;(with_reducible rfl);rotate_left;simp only [Act.put,sA,s0,s1,i64_w,i32_w];rfl
         refine pure_ (i:=19) (N:=some 32) (v:=undef) (a':=?_) m20_3 rfl rfl (any_of HT_.out (by kernel_rfl)) (fun _ _ _ h => h) (Or.inr ⟨by rfl,rfl⟩) ?_ ?_;rotate_left
         ·simp only [Act.put,sA,s0,s1,i64_w,i32_w];rfl
         refine pure_ (i:=20) (N:=some 33) (v:=undef) (a':=?_) m27_3 rfl rfl (any_of HT_.out (by kernel_rfl)) (fun _ _ _ h => h) (Or.inr ⟨by rfl,rfl⟩) ?_ ?_;rotate_left
         ·simp only [Act.put,sA,s0,s1,i64_w,i32_w];rfl
         refine pure_ (i:=21) (N:=some 34) (v:=undef) (a':=?_) m22_3 rfl rfl (any_of HT_.out (by kernel_rfl)) (fun _ _ _ h => h) (Or.inr ⟨by rfl,rfl⟩) ?_ ?_;rotate_left
         ·simp only [Act.put,sA,s0,s1,i64_w,i32_w];rfl
         refine pure_ (i:=22) (N:=some 35) (v:=undef) (a':=?_) m23_3 rfl rfl (any_of HT_.out (by kernel_rfl)) (fun _ _ _ h => h) (Or.inr ⟨by rfl,rfl⟩) ?_ ?_;rotate_left
         ·simp only [Act.put,sA,s0,s1,i64_w,i32_w];rfl
         refine pure_ (i:=23) (N:=some 36) (v:=undef) (a':=?_) m24_3 rfl rfl (any_of HT_.out (by kernel_rfl)) (fun _ _ _ h => h) (Or.inr ⟨by rfl,rfl⟩) ?_ ?_;rotate_left
         ·simp only [Act.put,sA,s0,s1,i64_w,i32_w];rfl
         refine pure_ (i:=24) (N:=some 37) (v:=undef) (a':=?_) m25_3 rfl rfl (any_of HT_.out (by kernel_rfl)) (fun _ _ _ h => h) (Or.inr ⟨by rfl,rfl⟩) ?_ ?_;rotate_left
         ·simp only [Act.put,sA,s0,s1,i64_w,i32_w];rfl
         refine pure_ (i:=25) (N:=some 38) (v:=?_) (a':=?_) m26_3 rfl rfl (any_of HT_.out (by kernel_rfl)) (fun _ _ _ h => h) (Or.inl ⟨by rfl,?_⟩) ?_ ?_;rotate_left;intro w';go_simp;(with_reducible rfl);rotate_left;simp only [Act.put,sA,s0,s1,i64_w,i32_w];rfl
         refine done_ (done_of HT_.out (by kernel_rfl)) ?_
         try go_wp2
         go_ret
         exact ⟨by first | rfl | (simp [errW_none,errW_some] <;> rfl) | (simp [*,errW_none,errW_some] <;> rfl),by repeat (first | (with_reducible first | exact HB.out | apply bA | apply bN | apply bD | refine below_set ?_ GE110.out) | exact HB.out)⟩
       ·replace c8:=Bool.eq_false_iff.mpr c8;subst c8;have H1 : (some false) = some r:=by rw [if_neg (show ¬ (false = true) by decide)] at H;exact H
        clear H;have H:=H1;clear H1;obtain rfl:=Option.some.inj H;have p109 : 0 ≤ (x9_1 : Int):=odt (by first | (with_reducible assumption) | assumption);have q109 : x9_1 < (l0.length : Int):=odt (by first | (with_reducible assumption) | assumption);obtain ⟨ad109,e109,hx109_0,hx109_1,hx109_2,hx109_3⟩:=at_T44 HR0.out x9_1 p109 q109
        cases e109
        replace hx109_0:=(ct HB.out hx109_0 :)
        replace hx109_1:=(ct HB.out hx109_1 :)
        replace hx109_2:=(ct HB.out hx109_2 :)
        replace hx109_3:=(ct HB.out hx109_3 :)
        replace p109:=eq_true p109;replace q109:=eq_true q109
        try go_wp2_with (first | ((with_reducible refine gate_dst (N:=6) rfl ?_);refine box_event ?hg (N:=6) ?hd (cs:=#[.int .i64 0,.int .i64 0,.int .i64 0,.int .i64 0]) (t:=44) ?hr ?_;(case hd => rfl);(case hg => rfl);(case hr => first | (go_simp;done) | (go_simp;rfl));intro gb110 hg w28 hbox hb;have n0_:=am (below_step (by repeat (first | (with_reducible first | exact HB.out | apply bA | apply bN | apply bD) | exact HB.out)) hb);have n1_:=am (hbox);have n2_:=am ((by rw [hg];exact (below_size (by repeat (first | (with_reducible first | exact HB.out | apply bA | apply bN | apply bD) | exact HB.out))) : w.heap.size ≤ gb110));have n3_:=am ((by rw [hg];exact (below_size (by repeat (first | (with_reducible first | exact HB.out | apply bA | apply bN | apply bD) | exact HB.out))) : w.heap.size ≤ gb110));clear HB;have HB:=n0_;have BK110:=n1_;have GW110:=n2_;have GE110:=n3_;clear n0_ n1_ n2_ n3_;clear hb hbox hg;have hcz29_0 : w28.cell? ⟨gb110,0,none⟩ = some (.int .i64 0):=(blk_cell BK110.out 0).trans rfl;have hcz29_1 : w28.cell? ⟨gb110,1,none⟩ = some (.int .i64 0):=(blk_cell BK110.out 1).trans rfl;have hcz29_2 : w28.cell? ⟨gb110,2,none⟩ = some (.int .i64 0):=(blk_cell BK110.out 2).trans rfl;have hcz29_3 : w28.cell? ⟨gb110,3,none⟩ = some (.int .i64 0):=(blk_cell BK110.out 3).trans rfl;have hfz29_0:=blk_frozen BK110.out 0;have hfz29_1:=blk_frozen BK110.out 1;have hfz29_2:=blk_frozen BK110.out 2;have hfz29_3:=blk_frozen BK110.out 3))
        have n0_ : Aside0 (((((w28.setCell ⟨gb110,0,none⟩ (.int .i64 ((rd_T44 l0 x9_1).f0))).setCell ⟨gb110,1,none⟩ (.int .i64 ((rd_T44 l0 x9_1).f1))).setCell ⟨gb110,2,none⟩ (.int .i64 ((rd_T44 l0 x9_1).f2))).setCell ⟨gb110,3,none⟩ (.int .i64 ((rd_T44 l0 x9_1).f3))).heap[gb110]? = some (.cells #[.int .i64 ((rd_T44 l0 x9_1).f0),.int .i64 ((rd_T44 l0 x9_1).f1),.int .i64 ((rd_T44 l0 x9_1).f2),.int .i64 ((rd_T44 l0 x9_1).f3)] 44 (0,0))):=⟨by (with_reducible repeat (first | refine dN ?_ _ | refine dD ?_ | refine dA ?_ _));refine blk_put (cs:=#[.int .i64 ((rd_T44 l0 x9_1).f0),.int .i64 ((rd_T44 l0 x9_1).f1),.int .i64 ((rd_T44 l0 x9_1).f2),.int .i64 0]) ?_ 3 _ rfl;(with_reducible repeat (first | refine dN ?_ _ | refine dD ?_ | refine dA ?_ _));refine blk_put (cs:=#[.int .i64 ((rd_T44 l0 x9_1).f0),.int .i64 ((rd_T44 l0 x9_1).f1),.int .i64 0,.int .i64 0]) ?_ 2 _ rfl;(with_reducible repeat (first | refine dN ?_ _ | refine dD ?_ | refine dA ?_ _));refine blk_put (cs:=#[.int .i64 ((rd_T44 l0 x9_1).f0),.int .i64 0,.int .i64 0,.int .i64 0]) ?_ 1 _ rfl;(with_reducible repeat (first | refine dN ?_ _ | refine dD ?_ | refine dA ?_ _));refine blk_put (cs:=#[.int .i64 0,.int .i64 0,.int .i64 0,.int .i64 0]) ?_ 0 _ rfl;(with_reducible repeat (first | refine dN ?_ _ | refine dD ?_ | refine dA ?_ _));exact BK110.out⟩
        have n1_ : Aside0 (Below w.heap.size w ((((w28.setCell ⟨gb110,0,none⟩ (.int .i64 ((rd_T44 l0 x9_1).f0))).setCell ⟨gb110,1,none⟩ (.int .i64 ((rd_T44 l0 x9_1).f1))).setCell ⟨gb110,2,none⟩ (.int .i64 ((rd_T44 l0 x9_1).f2))).setCell ⟨gb110,3,none⟩ (.int .i64 ((rd_T44 l0 x9_1).f3)))):=⟨by repeat (first | (with_reducible first | exact HB.out | apply bA | apply bN | apply bD | refine below_set ?_ GE110.out) | exact HB.out)⟩
        (try clear BK110);(try clear HB)
        generalize ((((w28.setCell ⟨gb110,0,none⟩ (.int .i64 ((rd_T44 l0 x9_1).f0))).setCell ⟨gb110,1,none⟩ (.int .i64 ((rd_T44 l0 x9_1).f1))).setCell ⟨gb110,2,none⟩ (.int .i64 ((rd_T44 l0 x9_1).f2))).setCell ⟨gb110,3,none⟩ (.int .i64 ((rd_T44 l0 x9_1).f3))) = w30 at n0_ n1_ ⊢
        have BK110:=n0_;have HB:=n1_;clear n0_ n1_;have n0_:=am (blk_drew BK110.out);have n1_:=am (below_drew1 HB.out);clear BK110;clear HB;have BK110:=n0_;have HB:=n1_;clear n0_ n1_;refine start_ (n:=26) (S:=fun w' => w'.cell? ⟨gb110,0,none⟩ = some (.int .i64 ((rd_T44 l0 x9_1).f0)) ∧ w'.cell? ⟨gb110,1,none⟩ = some (.int .i64 ((rd_T44 l0 x9_1).f1)) ∧ w'.cell? ⟨gb110,2,none⟩ = some (.int .i64 ((rd_T44 l0 x9_1).f2)) ∧ w'.cell? ⟨gb110,3,none⟩ = some (.int .i64 ((rd_T44 l0 x9_1).f3))) (ds:=[]) m0_3 (by kernel_rfl) rfl rfl ⟨(blk_cell BK110.out 0).trans rfl,(blk_cell BK110.out 1).trans rfl,(blk_cell BK110.out 2).trans rfl,(blk_cell BK110.out 3).trans rfl⟩ (fun hHeld => ?_);refine with_tabW impl_IsJournal.tab5 impl_IsJournal.bits5 (fun HT_ HW_ => ?_)
        generalize w30.drew = w31 at BK110 HB hHeld ⊢
        refine pure_ (i:=0) (N:=some 13) (v:=?_) (a':=?_) m1_3 rfl rfl (any_of HT_.out (by kernel_rfl)) (fun _ _ _ h => h) (Or.inl ⟨by rfl,?_⟩) ?_ ?_;rotate_left;intro w';go_simp;(with_reducible rfl);rotate_left;simp only [Act.put,sA,s0,s1,i64_w,i32_w];rfl
        refine pure_ (i:=2) (N:=some 15) (v:=?_) (a':=?_) m2_3 rfl rfl (any_of HT_.out (by kernel_rfl)) (fun _ _ _ h => h) (Or.inl ⟨by rfl,?_⟩) ?_ ?_;rotate_left;intro w';go_simp;(with_reducible rfl);rotate_left;simp only [Act.put,sA,s0,s1,i64_w,i32_w];rfl
        refine pure_ (i:=3) (N:=some 16) (v:=?_) (a':=?_) m3_3 rfl rfl (any_of HT_.out (by kernel_rfl)) (fun _ _ _ h => h) (Or.inl ⟨by rfl,?_⟩) ?_ ?_;rotate_left;intro w';go_simp;(with_reducible rfl);rotate_left;simp only [Act.put,sA,s0,s1,i64_w,i32_w];rfl
        refine take_ (i:=1) (N:=some 14) (v:=?_) (a':=?_) m4_3 rfl rfl (take_ofW HT_.out HW_.out (by kernel_rfl)) (fun _ _ _ h => h) (Or.inl ⟨by rfl,?_⟩) hHeld ?_ ?_;rotate_left
        ·rintro w' ⟨s0,s1,s2,s3⟩
         go_simp;with_reducible rfl
        rotate_left
        ·simp only [Act.put,sA,s0,s1,i64_w,i32_w];rfl
        refine one_ (i:=4) (N:=some 17) m5_3 rfl rfl (one_of HT_.out (by kernel_rfl)) (by decide) (fun K hK => ?_);refine goes_ Try.func54 (by kernel_rfl) rfl #[.int .i64 ((rd_T44 l0 x9_1).f0),.int .i64 (wrap64 (x4_1 + 1)),.int .i64 10000] (by rfl) rfl rfl (by (try simp only [List.map_toArray,List.map_cons,List.map_nil]);first | done | rfl | (simp only [List.length_drop,List.length_take];rfl)) ?_;with_reducible refine (impl_InRange.calls ((rd_T44 l0 x9_1).f0) (wrap64 (x4_1 + 1)) 10000 true _ A5.out).mono ?_
        rintro e w' ⟨rfl,⟨nd,rfl⟩⟩
        refine ⟨_,rfl,?_⟩;refine hK.out _ _ ⟨(blk_cell BK110.out 0).trans rfl,(blk_cell BK110.out 1).trans rfl,(blk_cell BK110.out 2).trans rfl,(blk_cell BK110.out 3).trans rfl⟩ (fun hHeld => ?_);clear hK K;refine norm_ (a':=?_) ?_ ?_;rotate_left
        ·show Act.put _ (some 17) _ = _
         simp only [Act.put,sA,s0,s1,i64_w,i32_w];rfl
        refine pure_ (i:=5) (N:=some 18) (v:=?_) (a':=?_) m6_3 rfl rfl (any_of HT_.out (by kernel_rfl)) (fun _ _ _ h => h) (Or.inl ⟨by rfl,?_⟩) ?_ ?_;rotate_left;intro w';go_simp;(with_reducible rfl);rotate_left;simp only [Act.put,sA,s0,s1,i64_w,i32_w];rfl
        refine pure_ (i:=6) (N:=some 19) (v:=?_) (a':=?_) m7_3 rfl rfl (any_of HT_.out (by kernel_rfl)) (fun _ _ _ h => h) (Or.inl ⟨by rfl,?_⟩) ?_ ?_;rotate_left;intro w';go_simp;(with_reducible rfl);rotate_left;simp only [Act.put,sA,s0,s1,i64_w,i32_w];rfl
        refine pure_ (i:=7) (N:=some 20) (v:=?_) (a':=?_) m8_3 rfl rfl (any_of HT_.out (by kernel_rfl)) (fun _ _ _ h => h) (Or.inl ⟨by rfl,?_⟩) ?_ ?_;rotate_left;intro w';go_simp;(with_reducible rfl);rotate_left;simp only [Act.put,sA,s0,s1,i64_w,i32_w];rfl
        refine take_ (i:=8) (N:=some 21) (v:=?_) (a':=?_) m9_3 rfl rfl (take_ofW HT_.out HW_.out (by kernel_rfl)) (fun _ _ _ h => h) (Or.inl ⟨by rfl,?_⟩) hHeld ?_ ?_;rotate_left
        ·rintro w' ⟨s0,s1,s2,s3⟩
         go_simp;with_reducible rfl
        rotate_left
        ·simp only [Act.put,sA,s0,s1,i64_w,i32_w];rfl
        refine one_ (i:=9) (N:=some 22) m10_3 rfl rfl (one_of HT_.out (by kernel_rfl)) (by decide) (fun K hK => ?_);refine goes_ Try.func54 (by kernel_rfl) rfl #[.int .i64 ((rd_T44 l0 x9_1).f1),.int .i64 0,.int .i64 63] (by rfl) rfl rfl (by (try simp only [List.map_toArray,List.map_cons,List.map_nil]);first | done | rfl | (simp only [List.length_drop,List.length_take];rfl)) ?_;with_reducible refine (impl_InRange.calls ((rd_T44 l0 x9_1).f1) 0 63 false _ A7.out).mono ?_
        rintro e w' ⟨rfl,⟨nd,rfl⟩⟩
        refine ⟨_,rfl,?_⟩;refine hK.out _ _ ⟨(blk_cell BK110.out 0).trans rfl,(blk_cell BK110.out 1).trans rfl,(blk_cell BK110.out 2).trans rfl,(blk_cell BK110.out 3).trans rfl⟩ (fun hHeld => ?_);clear hK K;refine norm_ (a':=?_) ?_ ?_;rotate_left
        ·show Act.put _ (some 22) _ = _
         simp only [Act.put,sA,s0,s1,i64_w,i32_w];rfl
        refine pure_ (i:=10) (N:=some 23) (v:=?_) (a':=?_) m11_3 rfl rfl (any_of HT_.out (by kernel_rfl)) (fun _ _ _ h => h) (Or.inl ⟨by rfl,?_⟩) ?_ ?_;rotate_left;intro w';go_simp;(with_reducible rfl);rotate_left;simp only [Act.put,sA,s0,s1,i64_w,i32_w];rfl
        refine pure_ (i:=11) (N:=some 24) (v:=?_) (a':=?_) m12_3 rfl rfl (any_of HT_.out (by kernel_rfl)) (fun _ _ _ h => h) (Or.inl ⟨by rfl,?_⟩) ?_ ?_;rotate_left;intro w';go_simp;(with_reducible rfl);rotate_left;simp only [Act.put,sA,s0,s1,i64_w,i32_w];rfl
        refine pure_ (i:=12) (N:=some 25) (v:=?_) (a':=?_) m13_3 rfl rfl (any_of HT_.out (by kernel_rfl)) (fun _ _ _ h => h) (Or.inl ⟨by rfl,?_⟩) ?_ ?_;rotate_left;intro w';go_simp;(with_reducible rfl);rotate_left;simp only [Act.put,sA,s0,s1,i64_w,i32_w];rfl
        refine pure_ (i:=13) (N:=some 26) (v:=undef) (a':=?_) m14_3 rfl rfl (any_of HT_.out (by kernel_rfl)) (fun _ _ _ h => h) (Or.inr ⟨by rfl,rfl⟩) ?_ ?_;rotate_left
        ·simp only [Act.put,sA,s0,s1,i64_w,i32_w];rfl
        refine pure_ (i:=14) (N:=some 27) (v:=undef) (a':=?_) m15_3 rfl rfl (any_of HT_.out (by kernel_rfl)) (fun _ _ _ h => h) (Or.inr ⟨by rfl,rfl⟩) ?_ ?_;rotate_left
        ·simp only [Act.put,sA,s0,s1,i64_w,i32_w];rfl
        refine pure_ (i:=15) (N:=some 28) (v:=undef) (a':=?_) m16_3 rfl rfl (any_of HT_.out (by kernel_rfl)) (fun _ _ _ h => h) (Or.inr ⟨by rfl,rfl⟩) ?_ ?_;rotate_left
        ·simp only [Act.put,sA,s0,s1,i64_w,i32_w];rfl
        refine pure_ (i:=16) (N:=some 29) (v:=undef) (a':=?_) m17_3 rfl rfl (any_of HT_.out (by kernel_rfl)) (fun _ _ _ h => h) (Or.inr ⟨by rfl,rfl⟩) ?_ ?_;rotate_left
        ·simp only [Act.put,sA,s0,s1,i64_w,i32_w];rfl
        refine pure_ (i:=17) (N:=some 30) (v:=?_) (a':=?_) m18_3 rfl rfl (any_of HT_.out (by kernel_rfl)) (fun _ _ _ h => h) (Or.inl ⟨by rfl,?_⟩) ?_ ?_;rotate_left;intro w';go_simp;(with_reducible rfl);rotate_left;simp only [Act.put,sA,s0,s1,i64_w,i32_w];rfl
        refine pure_ (i:=18) (N:=some 31) (v:=?_) (a':=?_) m19_3 rfl rfl (any_of HT_.out (by kernel_rfl)) (fun _ _ _ h => h) (Or.inl ⟨by rfl,?_⟩) ?_ ?_;rotate_left;intro w';go_simp;(with_reducible rfl);rotate_left;simp only [Act.put,sA,s0,s1,i64_w,i32_w];rfl
        refine pure_ (i:=19) (N:=some 32) (v:=undef) (a':=?_) m20_3 rfl rfl (any_of HT_.out (by kernel_rfl)) (fun _ _ _ h => h) (Or.inr ⟨by rfl,rfl⟩) ?_ ?_;rotate_left
        ·simp only [Act.put,sA,s0,s1,i64_w,i32_w];rfl
        refine pure_ (i:=20) (N:=some 33) (v:=undef) (a':=?_) m27_3 rfl rfl (any_of HT_.out (by kernel_rfl)) (fun _ _ _ h => h) (Or.inr ⟨by rfl,rfl⟩) ?_ ?_;rotate_left
        ·simp only [Act.put,sA,s0,s1,i64_w,i32_w];rfl
        refine pure_ (i:=21) (N:=some 34) (v:=undef) (a':=?_) m22_3 rfl rfl (any_of HT_.out (by kernel_rfl)) (fun _ _ _ h => h) (Or.inr ⟨by rfl,rfl⟩) ?_ ?_;rotate_left
        ·simp only [Act.put,sA,s0,s1,i64_w,i32_w];rfl
        refine pure_ (i:=22) (N:=some 35) (v:=undef) (a':=?_) m23_3 rfl rfl (any_of HT_.out (by kernel_rfl)) (fun _ _ _ h => h) (Or.inr ⟨by rfl,rfl⟩) ?_ ?_;rotate_left
        ·simp only [Act.put,sA,s0,s1,i64_w,i32_w];rfl
        refine pure_ (i:=23) (N:=some 36) (v:=undef) (a':=?_) m24_3 rfl rfl (any_of HT_.out (by kernel_rfl)) (fun _ _ _ h => h) (Or.inr ⟨by rfl,rfl⟩) ?_ ?_;rotate_left
        ·simp only [Act.put,sA,s0,s1,i64_w,i32_w];rfl
        refine pure_ (i:=24) (N:=some 37) (v:=undef) (a':=?_) m25_3 rfl rfl (any_of HT_.out (by kernel_rfl)) (fun _ _ _ h => h) (Or.inr ⟨by rfl,rfl⟩) ?_ ?_;rotate_left
        ·simp only [Act.put,sA,s0,s1,i64_w,i32_w];rfl
        refine pure_ (i:=25) (N:=some 38) (v:=?_) (a':=?_) m26_3 rfl rfl (any_of HT_.out (by kernel_rfl)) (fun _ _ _ h => h) (Or.inl ⟨by rfl,?_⟩) ?_ ?_;rotate_left;intro w';go_simp;(with_reducible rfl);rotate_left;simp only [Act.put,sA,s0,s1,i64_w,i32_w];rfl
        refine done_ (done_of HT_.out (by kernel_rfl)) ?_
        try go_wp2
        go_ret
        exact ⟨by first | rfl | (simp [errW_none,errW_some] <;> rfl) | (simp [*,errW_none,errW_some] <;> rfl),by repeat (first | (with_reducible first | exact HB.out | apply bA | apply bN | apply bD | refine below_set ?_ GE110.out) | exact HB.out)⟩
      ·replace c6:=Bool.eq_false_iff.mpr c6;subst c6;have H1 : (some false) = some r:=by rw [if_neg (show ¬ (false = true) by decide)] at H;exact H
       clear H;have H:=H1;clear H1;obtain rfl:=Option.some.inj H;have p109 : 0 ≤ (x9_1 : Int):=odt (by first | (with_reducible assumption) | assumption);have q109 : x9_1 < (l0.length : Int):=odt (by first | (with_reducible assumption) | assumption);obtain ⟨ad109,e109,hx109_0,hx109_1,hx109_2,hx109_3⟩:=at_T44 HR0.out x9_1 p109 q109
       cases e109
       replace hx109_0:=(ct HB.out hx109_0 :)
       replace hx109_1:=(ct HB.out hx109_1 :)
       replace hx109_2:=(ct HB.out hx109_2 :)
       replace hx109_3:=(ct HB.out hx109_3 :)
       replace p109:=eq_true p109;replace q109:=eq_true q109
       try go_wp2_with (first | ((with_reducible refine gate_dst (N:=6) rfl ?_);refine box_event ?hg (N:=6) ?hd (cs:=#[.int .i64 0,.int .i64 0,.int .i64 0,.int .i64 0]) (t:=44) ?hr ?_;(case hd => rfl);(case hg => rfl);(case hr => first | (go_simp;done) | (go_simp;rfl));intro gb110 hg w32 hbox hb;have n0_:=am (below_step (by repeat (first | (with_reducible first | exact HB.out | apply bA | apply bN | apply bD) | exact HB.out)) hb);have n1_:=am (hbox);have n2_:=am ((by rw [hg];exact (below_size (by repeat (first | (with_reducible first | exact HB.out | apply bA | apply bN | apply bD) | exact HB.out))) : w.heap.size ≤ gb110));have n3_:=am ((by rw [hg];exact (below_size (by repeat (first | (with_reducible first | exact HB.out | apply bA | apply bN | apply bD) | exact HB.out))) : w.heap.size ≤ gb110));clear HB;have HB:=n0_;have BK110:=n1_;have GW110:=n2_;have GE110:=n3_;clear n0_ n1_ n2_ n3_;clear hb hbox hg;have hcz33_0 : w32.cell? ⟨gb110,0,none⟩ = some (.int .i64 0):=(blk_cell BK110.out 0).trans rfl;have hcz33_1 : w32.cell? ⟨gb110,1,none⟩ = some (.int .i64 0):=(blk_cell BK110.out 1).trans rfl;have hcz33_2 : w32.cell? ⟨gb110,2,none⟩ = some (.int .i64 0):=(blk_cell BK110.out 2).trans rfl;have hcz33_3 : w32.cell? ⟨gb110,3,none⟩ = some (.int .i64 0):=(blk_cell BK110.out 3).trans rfl;have hfz33_0:=blk_frozen BK110.out 0;have hfz33_1:=blk_frozen BK110.out 1;have hfz33_2:=blk_frozen BK110.out 2;have hfz33_3:=blk_frozen BK110.out 3))
       have n0_ : Aside0 (((((w32.setCell ⟨gb110,0,none⟩ (.int .i64 ((rd_T44 l0 x9_1).f0))).setCell ⟨gb110,1,none⟩ (.int .i64 ((rd_T44 l0 x9_1).f1))).setCell ⟨gb110,2,none⟩ (.int .i64 ((rd_T44 l0 x9_1).f2))).setCell ⟨gb110,3,none⟩ (.int .i64 ((rd_T44 l0 x9_1).f3))).heap[gb110]? = some (.cells #[.int .i64 ((rd_T44 l0 x9_1).f0),.int .i64 ((rd_T44 l0 x9_1).f1),.int .i64 ((rd_T44 l0 x9_1).f2),.int .i64 ((rd_T44 l0 x9_1).f3)] 44 (0,0))):=⟨by (with_reducible repeat (first | refine dN ?_ _ | refine dD ?_ | refine dA ?_ _));refine blk_put (cs:=#[.int .i64 ((rd_T44 l0 x9_1).f0),.int .i64 ((rd_T44 l0 x9_1).f1),.int .i64 ((rd_T44 l0 x9_1).f2),.int .i64 0]) ?_ 3 _ rfl;(with_reducible repeat (first | refine dN ?_ _ | refine dD ?_ | refine dA ?_ _));refine blk_put (cs:=#[.int .i64 ((rd_T44 l0 x9_1).f0),.int .i64 ((rd_T44 l0 x9_1).f1),.int .i64 0,.int .i64 0]) ?_ 2 _ rfl;(with_reducible repeat (first | refine dN ?_ _ | refine dD ?_ | refine dA ?_ _));refine blk_put (cs:=#[.int .i64 ((rd_T44 l0 x9_1).f0),.int .i64 0,.int .i64 0,.int .i64 0]) ?_ 1 _ rfl;(with_reducible repeat (first | refine dN ?_ _ | refine dD ?_ | refine dA ?_ _));refine blk_put (cs:=#[.int .i64 0,.int .i64 0,.int .i64 0,.int .i64 0]) ?_ 0 _ rfl;(with_reducible repeat (first | refine dN ?_ _ | refine dD ?_ | refine dA ?_ _));exact BK110.out⟩
       have n1_ : Aside0 (Below w.heap.size w ((((w32.setCell ⟨gb110,0,none⟩ (.int .i64 ((rd_T44 l0 x9_1).f0))).setCell ⟨gb110,1,none⟩ (.int .i64 ((rd_T44 l0 x9_1).f1))).setCell ⟨gb110,2,none⟩ (.int .i64 ((rd_T44 l0 x9_1).f2))).setCell ⟨gb110,3,none⟩ (.int .i64 ((rd_T44 l0 x9_1).f3)))):=⟨by repeat (first | (with_reducible first | exact HB.out | apply bA | apply bN | apply bD | refine below_set ?_ GE110.out) | exact HB.out)⟩
       (try clear BK110);(try clear HB)
       generalize ((((w32.setCell ⟨gb110,0,none⟩ (.int .i64 ((rd_T44 l0 x9_1).f0))).setCell ⟨gb110,1,none⟩ (.int .i64 ((rd_T44 l0 x9_1).f1))).setCell ⟨gb110,2,none⟩ (.int .i64 ((rd_T44 l0 x9_1).f2))).setCell ⟨gb110,3,none⟩ (.int .i64 ((rd_T44 l0 x9_1).f3))) = w34 at n0_ n1_ ⊢
       have BK110:=n0_;have HB:=n1_;clear n0_ n1_;have n0_:=am (blk_drew BK110.out);have n1_:=am (below_drew1 HB.out);clear BK110;clear HB;have BK110:=n0_;have HB:=n1_;clear n0_ n1_;refine start_ (n:=26) (S:=fun w' => w'.cell? ⟨gb110,0,none⟩ = some (.int .i64 ((rd_T44 l0 x9_1).f0)) ∧ w'.cell? ⟨gb110,1,none⟩ = some (.int .i64 ((rd_T44 l0 x9_1).f1)) ∧ w'.cell? ⟨gb110,2,none⟩ = some (.int .i64 ((rd_T44 l0 x9_1).f2)) ∧ w'.cell? ⟨gb110,3,none⟩ = some (.int .i64 ((rd_T44 l0 x9_1).f3))) (ds:=[]) m0_3 (by kernel_rfl) rfl rfl ⟨(blk_cell BK110.out 0).trans rfl,(blk_cell BK110.out 1).trans rfl,(blk_cell BK110.out 2).trans rfl,(blk_cell BK110.out 3).trans rfl⟩ (fun hHeld => ?_);refine with_tabW impl_IsJournal.tab5 impl_IsJournal.bits5 (fun HT_ HW_ => ?_)
       generalize w34.drew = w35 at BK110 HB hHeld ⊢
       refine pure_ (i:=0) (N:=some 13) (v:=?_) (a':=?_) m1_3 rfl rfl (any_of HT_.out (by kernel_rfl)) (fun _ _ _ h => h) (Or.inl ⟨by rfl,?_⟩) ?_ ?_;rotate_left;intro w';go_simp;(with_reducible rfl);rotate_left;simp only [Act.put,sA,s0,s1,i64_w,i32_w];rfl
       refine pure_ (i:=2) (N:=some 15) (v:=?_) (a':=?_) m2_3 rfl rfl (any_of HT_.out (by kernel_rfl)) (fun _ _ _ h => h) (Or.inl ⟨by rfl,?_⟩) ?_ ?_;rotate_left;intro w';go_simp;(with_reducible rfl);rotate_left;simp only [Act.put,sA,s0,s1,i64_w,i32_w];rfl
       refine pure_ (i:=3) (N:=some 16) (v:=?_) (a':=?_) m3_3 rfl rfl (any_of HT_.out (by kernel_rfl)) (fun _ _ _ h => h) (Or.inl ⟨by rfl,?_⟩) ?_ ?_;rotate_left;intro w';go_simp;(with_reducible rfl);rotate_left;simp only [Act.put,sA,s0,s1,i64_w,i32_w];rfl
       refine take_ (i:=1) (N:=some 14) (v:=?_) (a':=?_) m4_3 rfl rfl (take_ofW HT_.out HW_.out (by kernel_rfl)) (fun _ _ _ h => h) (Or.inl ⟨by rfl,?_⟩) hHeld ?_ ?_;rotate_left
       ·rintro w' ⟨s0,s1,s2,s3⟩
        go_simp;with_reducible rfl
       rotate_left
       ·simp only [Act.put,sA,s0,s1,i64_w,i32_w];rfl
       refine one_ (i:=4) (N:=some 17) m5_3 rfl rfl (one_of HT_.out (by kernel_rfl)) (by decide) (fun K hK => ?_);refine goes_ Try.func54 (by kernel_rfl) rfl #[.int .i64 ((rd_T44 l0 x9_1).f0),.int .i64 (wrap64 (x4_1 + 1)),.int .i64 10000] (by rfl) rfl rfl (by (try simp only [List.map_toArray,List.map_cons,List.map_nil]);first | done | rfl | (simp only [List.length_drop,List.length_take];rfl)) ?_;with_reducible refine (impl_InRange.calls ((rd_T44 l0 x9_1).f0) (wrap64 (x4_1 + 1)) 10000 false _ A5.out).mono ?_
       rintro e w' ⟨rfl,⟨nd,rfl⟩⟩
       refine ⟨_,rfl,?_⟩;refine hK.out _ _ ⟨(blk_cell BK110.out 0).trans rfl,(blk_cell BK110.out 1).trans rfl,(blk_cell BK110.out 2).trans rfl,(blk_cell BK110.out 3).trans rfl⟩ (fun hHeld => ?_);clear hK K;refine norm_ (a':=?_) ?_ ?_;rotate_left
       ·show Act.put _ (some 17) _ = _
        simp only [Act.put,sA,s0,s1,i64_w,i32_w];rfl
       refine pure_ (i:=5) (N:=some 18) (v:=?_) (a':=?_) m6_3 rfl rfl (any_of HT_.out (by kernel_rfl)) (fun _ _ _ h => h) (Or.inl ⟨by rfl,?_⟩) ?_ ?_;rotate_left;intro w';go_simp;(with_reducible rfl);rotate_left;simp only [Act.put,sA,s0,s1,i64_w,i32_w];rfl
       refine pure_ (i:=6) (N:=some 19) (v:=?_) (a':=?_) m7_3 rfl rfl (any_of HT_.out (by kernel_rfl)) (fun _ _ _ h => h) (Or.inl ⟨by rfl,?_⟩) ?_ ?_;rotate_left;intro w';go_simp;(with_reducible rfl);rotate_left;simp only [Act.put,sA,s0,s1,i64_w,i32_w];rfl
       refine pure_ (i:=7) (N:=some 20) (v:=undef) (a':=?_) m8_3 rfl rfl (any_of HT_.out (by kernel_rfl)) (fun _ _ _ h => h) (Or.inr ⟨by rfl,rfl⟩) ?_ ?_;rotate_left
       ·simp only [Act.put,sA,s0,s1,i64_w,i32_w];rfl
       refine pure_ (i:=8) (N:=some 21) (v:=undef) (a':=?_) m9_3 rfl rfl (any_of HT_.out (by kernel_rfl)) (fun _ _ _ h => h) (Or.inr ⟨by rfl,rfl⟩) ?_ ?_;rotate_left
       ·simp only [Act.put,sA,s0,s1,i64_w,i32_w];rfl
       refine pure_ (i:=9) (N:=some 22) (v:=undef) (a':=?_) m10_3 rfl rfl (any_of HT_.out (by kernel_rfl)) (fun _ _ _ h => h) (Or.inr ⟨by rfl,rfl⟩) ?_ ?_;rotate_left
       ·simp only [Act.put,sA,s0,s1,i64_w,i32_w];rfl
       refine pure_ (i:=10) (N:=some 23) (v:=undef) (a':=?_) m11_3 rfl rfl (any_of HT_.out (by kernel_rfl)) (fun _ _ _ h => h) (Or.inr ⟨by rfl,rfl⟩) ?_ ?_;rotate_left
       ·simp only [Act.put,sA,s0,s1,i64_w,i32_w];rfl
       refine pure_ (i:=11) (N:=some 24) (v:=?_) (a':=?_) m12_3 rfl rfl (any_of HT_.out (by kernel_rfl)) (fun _ _ _ h => h) (Or.inl ⟨by rfl,?_⟩) ?_ ?_;rotate_left;intro w';go_simp;(with_reducible rfl);rotate_left;simp only [Act.put,sA,s0,s1,i64_w,i32_w];rfl
       refine pure_ (i:=12) (N:=some 25) (v:=?_) (a':=?_) m13_3 rfl rfl (any_of HT_.out (by kernel_rfl)) (fun _ _ _ h => h) (Or.inl ⟨by rfl,?_⟩) ?_ ?_;rotate_left;intro w';go_simp;(with_reducible rfl);rotate_left;simp only [Act.put,sA,s0,s1,i64_w,i32_w];rfl
       refine pure_ (i:=13) (N:=some 26) (v:=undef) (a':=?_) m14_3 rfl rfl (any_of HT_.out (by kernel_rfl)) (fun _ _ _ h => h) (Or.inr ⟨by rfl,rfl⟩) ?_ ?_;rotate_left
       ·simp only [Act.put,sA,s0,s1,i64_w,i32_w];rfl
       refine pure_ (i:=14) (N:=some 27) (v:=undef) (a':=?_) m15_3 rfl rfl (any_of HT_.out (by kernel_rfl)) (fun _ _ _ h => h) (Or.inr ⟨by rfl,rfl⟩) ?_ ?_;rotate_left
       ·simp only [Act.put,sA,s0,s1,i64_w,i32_w];rfl
       refine pure_ (i:=15) (N:=some 28) (v:=undef) (a':=?_) m16_3 rfl rfl (any_of HT_.out (by kernel_rfl)) (fun _ _ _ h => h) (Or.inr ⟨by rfl,rfl⟩) ?_ ?_;rotate_left
       ·simp only [Act.put,sA,s0,s1,i64_w,i32_w];rfl
       refine pure_ (i:=16) (N:=some 29) (v:=undef) (a':=?_) m17_3 rfl rfl (any_of HT_.out (by kernel_rfl)) (fun _ _ _ h => h) (Or.inr ⟨by rfl,rfl⟩) ?_ ?_;rotate_left
       ·simp only [Act.put,sA,s0,s1,i64_w,i32_w];rfl
       refine pure_ (i:=17) (N:=some 30) (v:=?_) (a':=?_) m18_3 rfl rfl (any_of HT_.out (by kernel_rfl)) (fun _ _ _ h => h) (Or.inl ⟨by rfl,?_⟩) ?_ ?_;rotate_left;intro w';go_simp;(with_reducible rfl);rotate_left;simp only [Act.put,sA,s0,s1,i64_w,i32_w];rfl
       refine pure_ (i:=18) (N:=some 31) (v:=?_) (a':=?_) m19_3 rfl rfl (any_of HT_.out (by kernel_rfl)) (fun _ _ _ h => h) (Or.inl ⟨by rfl,?_⟩) ?_ ?_;rotate_left;intro w';go_simp;(with_reducible rfl);rotate_left;simp only [Act.put,sA,s0,s1,i64_w,i32_w];rfl
       refine pure_ (i:=19) (N:=some 32) (v:=undef) (a':=?_) m20_3 rfl rfl (any_of HT_.out (by kernel_rfl)) (fun _ _ _ h => h) (Or.inr ⟨by rfl,rfl⟩) ?_ ?_;rotate_left
       ·simp only [Act.put,sA,s0,s1,i64_w,i32_w];rfl
       refine pure_ (i:=20) (N:=some 33) (v:=undef) (a':=?_) m27_3 rfl rfl (any_of HT_.out (by kernel_rfl)) (fun _ _ _ h => h) (Or.inr ⟨by rfl,rfl⟩) ?_ ?_;rotate_left
       ·simp only [Act.put,sA,s0,s1,i64_w,i32_w];rfl
       refine pure_ (i:=21) (N:=some 34) (v:=undef) (a':=?_) m22_3 rfl rfl (any_of HT_.out (by kernel_rfl)) (fun _ _ _ h => h) (Or.inr ⟨by rfl,rfl⟩) ?_ ?_;rotate_left
       ·simp only [Act.put,sA,s0,s1,i64_w,i32_w];rfl
       refine pure_ (i:=22) (N:=some 35) (v:=undef) (a':=?_) m23_3 rfl rfl (any_of HT_.out (by kernel_rfl)) (fun _ _ _ h => h) (Or.inr ⟨by rfl,rfl⟩) ?_ ?_;rotate_left
       ·simp only [Act.put,sA,s0,s1,i64_w,i32_w];rfl
       refine pure_ (i:=23) (N:=some 36) (v:=undef) (a':=?_) m24_3 rfl rfl (any_of HT_.out (by kernel_rfl)) (fun _ _ _ h => h) (Or.inr ⟨by rfl,rfl⟩) ?_ ?_;rotate_left
       ·simp only [Act.put,sA,s0,s1,i64_w,i32_w];rfl
       refine pure_ (i:=24) (N:=some 37) (v:=undef) (a':=?_) m25_3 rfl rfl (any_of HT_.out (by kernel_rfl)) (fun _ _ _ h => h) (Or.inr ⟨by rfl,rfl⟩) ?_ ?_;rotate_left
       ·simp only [Act.put,sA,s0,s1,i64_w,i32_w];rfl
       refine pure_ (i:=25) (N:=some 38) (v:=?_) (a':=?_) m26_3 rfl rfl (any_of HT_.out (by kernel_rfl)) (fun _ _ _ h => h) (Or.inl ⟨by rfl,?_⟩) ?_ ?_;rotate_left;intro w';go_simp;(with_reducible rfl);rotate_left;simp only [Act.put,sA,s0,s1,i64_w,i32_w];rfl
       refine done_ (done_of HT_.out (by kernel_rfl)) ?_
       try go_wp2
       go_ret
       exact ⟨by first | rfl | (simp [errW_none,errW_some] <;> rfl) | (simp [*,errW_none,errW_some] <;> rfl),by repeat (first | (with_reducible first | exact HB.out | apply bA | apply bN | apply bD | refine below_set ?_ GE110.out) | exact HB.out)⟩
     ·rw [if_neg c4] at H;exact absurd H (by simp)
    ·rw [if_neg c3] at H;exact absurd H (by simp)
   ·rw [if_neg c2] at H;have c2b0 : decide (x9_1 < (l0.length : Int)) = false:=decide_eq_false c2;clear c2;obtain rfl:=Option.some.inj H;go_wp2
    go_ret
    exact ⟨by first | rfl | (simp [errW_none,errW_some] <;> rfl) | (simp [*,errW_none,errW_some] <;> rfl),by repeat (first | (with_reducible first | exact HB.out | apply bA | apply bN | apply bD) | exact HB.out)⟩

end Go.Proofs.Ytdjdkngpbgobfaa.PFnJournals
