/- Contracts of functions that the law FnSearch reaches, for its row: lines that the kit's printer wrote for this claim, set shorter by a program of this session (own.py), and what fell in Lean proved anew. Lean checks them. -/
import Derived.Test.YtimpjccgnkbgmaaSFnSearchx0
namespace Go.Proofs.Ytimpjccgnkbgmaa.PFnSearch
open Go.RowKit Go.Proofs.YtimpjccgnkbgmaaW.PrintWords Go.Proofs.YtimpjccgnkbgmaaW.PrintLast Go.Proofs.YtimpjccgnkbgmaaW.PrintMore
attribute [local go_sem] max2_int min2_int max_two min_two max_three min_three max_four min_four   -- for this text's walks alone
set_option linter.unusedVariables false
set_option linter.unusedSimpArgs false

/-! ### laws_big: function 4 -/
def laws_big.f (l0 : List Int) : Option (Bool) := some (decide ((l0.length : Int) > 1048576))
set_option maxHeartbeats 8000000 in
set_option maxRecDepth 100000 in
theorem laws_big.calls (A0 : Option Addr) (c0 : Nat) (l0 : List Int) (r : Bool) (w : World) (hr0 : Kd.C (Kd.int .u8) w A0 l0.length l0) (hc0 : l0.length ≤ c0) (h : laws_big.f l0 = some r) :
  Calls Try.prog 4 #[.slice A0 l0.length c0] w fun e w' => e = .returned (.bool r) ∧ Drawn0 w w':=by
 have HR0:=am hr0;have HC0:=am hc0;clear hr0 hc0;have H : (some (decide ((l0.length : Int) > 1048576))) = some r:=h;clear h;obtain rfl:=Option.some.inj H
 go_enter Try.func4,Try.ntmps4
 go_wp2
 go_ret
 exact ⟨qq260,qq257⟩

/-- A state of type 58 at block g of W; what its slices lead to came in by w0. -/
def IsS58 (w0 W : World) (g : Nat) (f0 : List Int) (f1 : Int) (f2 : Int) : Prop := ∃ A0 c0, W.heap[g]? = some (.cells #[.slice A0 f0.length c0, .int .i64 f1, .int .i64 f2] 58 (0, 0)) ∧ w0.heap.size ≤ g ∧ Kd.C (Kd.int .u8) w0 A0 f0.length f0
theorem IsS58.grown {w0 W : World} {g : Nat} {f0 : List Int} {f1 : Int} {f2 : Int} {W1 : World} {row : Option Nat} (h : IsS58 w0 W g f0 f1 f2) (hw : W.grownBy W1 row) (hne : some g ≠ row) : IsS58 w0 W1 g f0 f1 f2 := by
 obtain ⟨A0,c0,hb,hg,hr0⟩:=h
 exact ⟨A0,c0,blk_grown hb hw hne,hg,hr0⟩
theorem IsS58.below {w0 W : World} {g : Nat} {f0 : List Int} {f1 : Int} {f2 : Int} {W1 : World} (h : IsS58 w0 W g f0 f1 f2) (hw : Below W.heap.size W W1) : IsS58 w0 W1 g f0 f1 f2 := h.grown (grown_of_below hw none) (by simp)
theorem IsS58.alloc {w0 W : World} {g : Nat} {f0 : List Int} {f1 : Int} {f2 : Int} (h : IsS58 w0 W g f0 f1 f2) (o : Obj) : IsS58 w0 (W.alloc o) g f0 f1 f2 := h.below (below_alloc (Below.refl _ _) o)
theorem IsS58.drewN {w0 W : World} {g : Nat} {f0 : List Int} {f1 : Int} {f2 : Int} (h : IsS58 w0 W g f0 f1 f2) (m : Nat) : IsS58 w0 (W.drewN m) g f0 f1 f2 := h
theorem IsS58.drew {w0 W : World} {g : Nat} {f0 : List Int} {f1 : Int} {f2 : Int} (h : IsS58 w0 W g f0 f1 f2) : IsS58 w0 W.drew g f0 f1 f2 := h
theorem IsS58.apart {w0 W : World} {g : Nat} {f0 : List Int} {f1 : Int} {f2 : Int} {α : Type} {d : Kd α} {e : Nat} {base : Nat} {ok : Nat → Prop} {v : Value} {xs : List α} (h : IsS58 w0 W g f0 f1 f2) (ho : d.R e W base ok v xs) (ht : ∀ q, q ∈ e :: d.E → q ≠ 58) : d.R e W base (fun k => ok k ∧ k ≠ g) v xs := by
 obtain ⟨A0,c0,hb,hg,hr0⟩:=h
 exact Kd.R_types ho hb ht
theorem IsS58.own_ne {w0 W : World} {g : Nat} {f0 : List Int} {f1 : Int} {f2 : Int} {α : Type} {d : Kd α} {e : Nat} {base : Nat} {ok : Nat → Prop} {v : Value} {xs : List α} (h : IsS58 w0 W g f0 f1 f2) (ho : d.R e W base ok v xs) (ht : e ≠ 58) : some g ≠ v.ownBlock := by
 obtain ⟨A0,c0,hb,hg,hr0⟩:=h
 exact Kd.R_ne ho hb ht
theorem IsS58.apartQ {w0 W : World} {g : Nat} {f0 : List Int} {f1 : Int} {f2 : Int} {α : Type} {d : Kd α} {e : Nat} {base : Nat} {ok : Nat → Prop} {v : Value} {xs : List α} (h : IsS58 w0 W g f0 f1 f2) (ho : d.Q e W base ok v xs) (ht : ∀ q, q ∈ e :: d.E → q ≠ 58) : d.Q e W base (fun k => ok k ∧ k ≠ g) v xs := by
 obtain ⟨A0,c0,hb,hg,hr0⟩:=h
 exact Kd.Q_types ho hb ht
theorem IsS58.lt {w0 W : World} {g : Nat} {f0 : List Int} {f1 : Int} {f2 : Int} (h : IsS58 w0 W g f0 f1 f2) : g < W.heap.size := by
 obtain ⟨A0,c0,hb,hg,hr0⟩:=h
 exact blk_lt hb
theorem IsS58.ge {w0 W : World} {g : Nat} {f0 : List Int} {f1 : Int} {f2 : Int} (h : IsS58 w0 W g f0 f1 f2) : w0.heap.size ≤ g := by
 obtain ⟨A0,c0,hb,hg,hr0⟩:=h
 exact hg
theorem IsS58.ne_blk {w0 W : World} {g : Nat} {f0 : List Int} {f1 : Int} {f2 : Int} {a : Nat} {cs : Array Value} {t : TypeId} {fr : Nat × Nat} (h : IsS58 w0 W g f0 f1 f2) (hb2 : W.heap[a]? = some (.cells cs t fr)) (ht : t ≠ 58) : g ≠ a := by
 obtain ⟨A0,c0,hb,hg,hr0⟩:=h
 rintro rfl
 rw [hb] at hb2
 injection hb2 with hb2
 injection hb2 with _ ht2
 exact ht ht2.symm
theorem IsS58.far {w0 W : World} {g : Nat} {f0 : List Int} {f1 : Int} {f2 : Int} {p : Addr} (h : IsS58 w0 W g f0 f1 f2) (hne : g ≠ p.block) (u : Value) : IsS58 w0 (W.setCell p u) g f0 f1 f2 := by
 obtain ⟨A0,c0,hb,hg,hr0⟩:=h
 exact ⟨A0,c0,blk_far hb hne u,hg,hr0⟩
theorem cellS58_0 {W : World} {g : Nat} {A0 : Option Addr} {c0 : Nat} {f0 : List Int} {f1 : Int} {f2 : Int} (h : W.heap[g]? = some (.cells #[.slice A0 f0.length c0, .int .i64 f1, .int .i64 f2] 58 (0, 0))) : W.cell? ⟨g, 0, none⟩ = some (.slice A0 f0.length c0) := (blk_cell h 0).trans rfl
theorem cellS58_1 {W : World} {g : Nat} {A0 : Option Addr} {c0 : Nat} {f0 : List Int} {f1 : Int} {f2 : Int} (h : W.heap[g]? = some (.cells #[.slice A0 f0.length c0, .int .i64 f1, .int .i64 f2] 58 (0, 0))) : W.cell? ⟨g, 1, none⟩ = some (.int .i64 f1) := (blk_cell h 1).trans rfl
theorem IsS58.set_1 {w0 W : World} {g : Nat} {f0 : List Int} {f1 : Int} {f2 : Int} (h : IsS58 w0 W g f0 f1 f2) (x : Int) : IsS58 w0 (W.setCell ⟨g, 1, none⟩ (.int .i64 x)) g f0 x f2 := by
 obtain ⟨A0,c0,hb,hg,hr0⟩:=h
 exact ⟨A0,c0,by simpa using blk_set hb 1 (.int .i64 x),hg,hr0⟩
theorem cellS58_2 {W : World} {g : Nat} {A0 : Option Addr} {c0 : Nat} {f0 : List Int} {f1 : Int} {f2 : Int} (h : W.heap[g]? = some (.cells #[.slice A0 f0.length c0, .int .i64 f1, .int .i64 f2] 58 (0, 0))) : W.cell? ⟨g, 2, none⟩ = some (.int .i64 f2) := (blk_cell h 2).trans rfl
theorem IsS58.set_2 {w0 W : World} {g : Nat} {f0 : List Int} {f1 : Int} {f2 : Int} (h : IsS58 w0 W g f0 f1 f2) (x : Int) : IsS58 w0 (W.setCell ⟨g, 2, none⟩ (.int .i64 x)) g f0 f1 x := by
 obtain ⟨A0,c0,hb,hg,hr0⟩:=h
 exact ⟨A0,c0,by simpa using blk_set hb 2 (.int .i64 x),hg,hr0⟩
/-! ### spec_l1New: function 20 -/
def spec_l1New.l0 : Nat → List Int → Int → Int → Option (List Int × Int × Int)
 | 0,_,_,_ => none
 | k + 1,x0,x3,x4 => if x4 < (x0.length : Int) then (if x4 < 4000 then (if 0 ≤ x4 then (spec_l1New.l0 k x0 (Go.bits .and .i64 (wrap64 ((wrap64 ((wrap64 (x3 * 137)) + (wrap64 (rd x0 x4)))) + 11)) 1073741823) (wrap64 (x4 + 1))) else (none)) else (some (x0,0,x3))) else (some (x0,0,x3))
def spec_l1New.f (k : Nat) (l0 : List Int) : Option (List Int × Int × Int) := spec_l1New.l0 k l0 (wrap64 (193017 + (l0.length : Int))) 0
set_option maxHeartbeats 8000000 in
set_option maxRecDepth 100000 in
theorem spec_l1New.calls (k : Nat) (A0 : Option Addr) (c0 : Nat) (l0 : List Int) (r1 : List Int) (r2 : Int) (r3 : Int) (w0 w : World) (hB : Below w0.heap.size w0 w) (hr0 : Kd.C (Kd.int .u8) w0 A0 l0.length l0) (hc0 : l0.length ≤ c0) (h : spec_l1New.f k l0 = some (r1, r2, r3)) :
  Calls Try.prog 20 #[.slice A0 l0.length c0] w fun e w' => ∃ g_ : Nat,e = .returned (.pointer (some ⟨g_,0,none⟩)) ∧ IsS58 w0 w' g_ r1 r2 r3 ∧ Below w0.heap.size w0 w' ∧ Below w.heap.size w w':=by
 have hu58:=Try.underlying58;have HR0:=am hr0;have HC0:=am hc0;clear hr0 hc0;have HBW:=am qq354;have HW0:=am hB.size;have HB:=am hB;clear hB;have H : (spec_l1New.l0 k l0 (wrap64 (193017 + (l0.length : Int))) 0) = some (r1,r2,r3):=h;clear h;have H':=am H;clear H
 go_enter Try.func20,Try.ntmps20
 go_wp2
 go_loopg [3,4] k (fun kq v3 v4 w' => ∃ (x3_1 : Int) (x4_1 : Int),v3 = .int .i64 x3_1 ∧ v4 = .int .i64 x4_1 ∧ Aside0 (spec_l1New.l0 kq l0 x3_1 x4_1 = some (r1,r2,r3)) ∧ Aside0 (kq ≤ k) ∧ Aside0 (Below w0.heap.size w0 w') ∧ Aside0 (Below w.heap.size w w'))
 case atStart => exact ⟨(wrap64 (193017 + (l0.length : Int))),(0),qq260,qq260,H',⟨Nat.le_refl _⟩,⟨qq176⟩,⟨qq166⟩⟩
 case round =>
  clear H';obtain ⟨x3_1,x4_1,rfl,rfl,HA,HK1,HB,HBW⟩:=hrel
  cases gk with
  | zero => exact absurd HA.out (by simp [spec_l1New.l0])
  | succ k1 =>
   have H:=HA.out;clear HA;simp only [spec_l1New.l0] at H
   by_cases c2 : x4_1 < (l0.length : Int)
   ·rw [if_pos c2] at H;have c2b0 : decide (x4_1 < (l0.length : Int)) = true:=decide_eq_true c2;clear c2
    by_cases c3 : x4_1 < 4000
    ·rw [if_pos c3] at H;have c3b0 : decide (x4_1 < 4000) = true:=decide_eq_true c3;clear c3
     by_cases c4 : 0 ≤ x4_1
     ·rw [if_pos c4] at H;have c4b0 : decide (0 ≤ x4_1) = true:=decide_eq_true c4;clear c4;have H':=am H;clear H;have p101 : 0 ≤ (x4_1 : Int):=odt qq258;have q101 : x4_1 < (l0.length : Int):=odt qq258;obtain ⟨ad101,e101,hx101_0⟩:=Kd.at_int HR0.out x4_1 p101 q101
      cases e101
      replace hx101_0:=pw_cell_below HB.out hx101_0;replace p101:=eq_true p101;replace q101:=eq_true q101;go_wp2
      go_roundg k1
      case measure => have:=HK1.out;omega
      case rel => exact ⟨(Go.bits .and .i64 (wrap64 ((wrap64 ((wrap64 (x3_1 * 137)) + (wrap64 (rd l0 x4_1)))) + 11)) 1073741823),(wrap64 (x4_1 + 1)),qq260,qq260,H',⟨qq275⟩,⟨qq176⟩,⟨qq166⟩⟩
     ·rw [if_neg c4] at H;exact absurd H (by simp)
    ·rw [if_neg c3] at H;have c3b0 : decide (x4_1 < 4000) = false:=decide_eq_false c3;clear c3;simp only [Option.some.injEq,Prod.mk.injEq] at H;obtain ⟨rfl,rfl,rfl⟩:=H;go_wp2_with (first | ((with_reducible refine gate_dst (N:=31) rfl ?_);refine box_event ?hg (N:=31) ?hd (cs:=#[.slice A0 l0.length c0,.int .i64 0,.int .i64 x3_1]) (t:=58) ?hr ?_;(case hd => rfl);(case hg => rfl);(case hr => exact qq261);intro gb102 hg w5 hbox hb;replace HB:=am qq358;have BK102:=am (hbox);have GW102:=am ((qq107 : w.heap.size ≤ gb102));have GE102:=am ((Nat.le_trans HW0.out (qq107 : w.heap.size ≤ gb102) : w0.heap.size ≤ gb102));replace HBW:=am (below_step HBW.out hb);clear hb hbox hg))
     go_ret
     exact ⟨_,rfl,(show IsS58 w0 _ gb102 l0 0 x3_1 from ⟨_,_,by (with_reducible repeat (first | refine dN ?_ _ | refine dD ?_ | refine dA ?_ _));exact BK102.out,GE102.out,HR0.out⟩),by repeat (first | (with_reducible first | exact HB.out | apply bA | apply bN | apply bD | refine below_set ?_ GE102.out) | exact HB.out),by repeat (first | (with_reducible first | exact HBW.out | apply bA | apply bN | apply bD | refine below_set ?_ GW102.out) | exact HBW.out)⟩
   ·rw [if_neg c2] at H;have c2b0 : decide (x4_1 < (l0.length : Int)) = false:=decide_eq_false c2;clear c2;simp only [Option.some.injEq,Prod.mk.injEq] at H;obtain ⟨rfl,rfl,rfl⟩:=H;go_wp2_with (first | ((with_reducible refine gate_dst (N:=31) rfl ?_);refine box_event ?hg (N:=31) ?hd (cs:=#[.slice A0 l0.length c0,.int .i64 0,.int .i64 x3_1]) (t:=58) ?hr ?_;(case hd => rfl);(case hg => rfl);(case hr => exact qq261);intro gb103 hg w6 hbox hb;replace HB:=am qq358;have BK103:=am (hbox);have GW103:=am ((qq107 : w.heap.size ≤ gb103));have GE103:=am ((Nat.le_trans HW0.out (qq107 : w.heap.size ≤ gb103) : w0.heap.size ≤ gb103));replace HBW:=am (below_step HBW.out hb);clear hb hbox hg))
    go_ret
    exact ⟨_,rfl,(show IsS58 w0 _ gb103 l0 0 x3_1 from ⟨_,_,by (with_reducible repeat (first | refine dN ?_ _ | refine dD ?_ | refine dA ?_ _));exact BK103.out,GE103.out,HR0.out⟩),by repeat (first | (with_reducible first | exact HB.out | apply bA | apply bN | apply bD | refine below_set ?_ GE103.out) | exact HB.out),by repeat (first | (with_reducible first | exact HBW.out | apply bA | apply bN | apply bD | refine below_set ?_ GW103.out) | exact HBW.out)⟩

/-! ### spec_l1Byte: function 33 -/
def spec_l1Byte.f (s0_0 : List Int) (s0_1 : Int) (s0_2 : Int) : Option (Int × Int × Int) := if s0_1 < (s0_0.length : Int) then (if 0 ≤ s0_1 then (some (Go.bits .and .i64 (wrap64 ((Go.bits .and .i64 (Go.bits .xor .i64 ((wrap64 ((wrap64 (s0_2 * 6364136223846793005)) + 1442695040888963407)) / 8589934592) ((wrap64 ((wrap64 (s0_2 * 6364136223846793005)) + 1442695040888963407)) / 140737488355328)) 255) + (wrap64 (rd s0_0 s0_1)))) 255, wrap64 (s0_1 + 1), wrap64 ((wrap64 (s0_2 * 6364136223846793005)) + 1442695040888963407))) else (none)) else (some (Go.bits .and .i64 (Go.bits .xor .i64 ((wrap64 ((wrap64 (s0_2 * 6364136223846793005)) + 1442695040888963407)) / 8589934592) ((wrap64 ((wrap64 (s0_2 * 6364136223846793005)) + 1442695040888963407)) / 140737488355328)) 255, s0_1, wrap64 ((wrap64 (s0_2 * 6364136223846793005)) + 1442695040888963407)))
set_option maxHeartbeats 8000000 in
set_option maxRecDepth 100000 in
theorem spec_l1Byte.calls (g : Nat) (s0_0 : List Int) (s0_1 : Int) (s0_2 : Int) (r1 : Int) (r2 : Int) (r3 : Int) (w0 w : World) (hI : IsS58 w0 w g s0_0 s0_1 s0_2) (hB : Below w0.heap.size w0 w) (h : spec_l1Byte.f s0_0 s0_1 s0_2 = some (r1, r2, r3)) :
  Calls Try.prog 33 #[.pointer (some ⟨g,0,none⟩)] w fun e w' => e = .returned (.int .i64 r1) ∧ IsS58 w0 w' g s0_0 r2 r3 ∧ Below w0.heap.size w0 w' ∧ KeepBut w w' g none:=by
 have HI0:=am hI;have HK:=am qq357;have HL:=am hB.size;clear hI;have HW0:=am hB.size;have HB:=am hB;clear hB;have H : (if s0_1 < (s0_0.length : Int) then (if 0 ≤ s0_1 then (some (Go.bits .and .i64 (wrap64 ((Go.bits .and .i64 (Go.bits .xor .i64 ((wrap64 ((wrap64 (s0_2 * 6364136223846793005)) + 1442695040888963407)) / 8589934592) ((wrap64 ((wrap64 (s0_2 * 6364136223846793005)) + 1442695040888963407)) / 140737488355328)) 255) + (wrap64 (rd s0_0 s0_1)))) 255,wrap64 (s0_1 + 1),wrap64 ((wrap64 (s0_2 * 6364136223846793005)) + 1442695040888963407))) else (none)) else (some (Go.bits .and .i64 (Go.bits .xor .i64 ((wrap64 ((wrap64 (s0_2 * 6364136223846793005)) + 1442695040888963407)) / 8589934592) ((wrap64 ((wrap64 (s0_2 * 6364136223846793005)) + 1442695040888963407)) / 140737488355328)) 255,s0_1,wrap64 ((wrap64 (s0_2 * 6364136223846793005)) + 1442695040888963407)))) = some (r1,r2,r3):=h;clear h
 by_cases c2 : s0_1 < (s0_0.length : Int)
 ·rw [if_pos c2] at H;have c2b0 : decide (s0_1 < (s0_0.length : Int)) = true:=decide_eq_true c2;clear c2
  by_cases c3 : 0 ≤ s0_1
  ·rw [if_pos c3] at H;have c3b0 : decide (0 ≤ s0_1) = true:=decide_eq_true c3;clear c3;simp only [Option.some.injEq,Prod.mk.injEq] at H;obtain ⟨rfl,rfl,rfl⟩:=H;obtain ⟨ASz4_0,cSz4_0,HGz4,hgz4,HSz4_0⟩:=HI0.out;have hcz4_0:=cellS58_0 HGz4;have hcz4_1:=cellS58_1 HGz4;have hcz4_2:=cellS58_2 HGz4;have hfz4_1:=blk_frozen HGz4 1;have hfz4_2:=blk_frozen HGz4 2;clear HGz4 hgz4;have p104 : 0 ≤ (s0_1 : Int):=odt qq258;have q104 : s0_1 < (s0_0.length : Int):=odt qq258;obtain ⟨ad104,e104,hx104_0⟩:=Kd.at_int HSz4_0 s0_1 p104 q104
   cases e104
   have hn104_0 : ad104.block ≠ g:=Nat.ne_of_lt (Nat.lt_of_lt_of_le (by have:=bl _ _ hx104_0;first | rwa [add_block] at this | exact this) (IsS58.ge HI0.out));replace hx104_0:=pw_cell_below HB.out hx104_0;replace hx104_0:=(cell_far (p:=⟨g,2,none⟩) (by first | (rw [add_block];exact hn104_0) | (show (Addr.add _ _).block ≠ _;rw [add_block];exact hn104_0) | exact hn104_0) (.int .i64 (wrap64 ((wrap64 (s0_2 * 6364136223846793005)) + 1442695040888963407)))).trans hx104_0;(try have hy104_0:=fun (n_ : Nat) => (show (((w.drewN n_).setCell ⟨g,2,none⟩ (.int .i64 (wrap64 ((wrap64 (s0_2 * 6364136223846793005)) + 1442695040888963407))))).cell? _ = some _ from hx104_0));clear hn104_0;replace p104:=eq_true p104;replace q104:=eq_true q104
   go_enter Try.func33,Try.ntmps33
   go_wp2
   repeat (go_quiet (fail);try go_wp2)
   go_ret
   exact ⟨qq216,qq62,qq103,qq97⟩
  ·rw [if_neg c3] at H;exact absurd H (by simp)
 ·rw [if_neg c2] at H;have c2b0 : decide (s0_1 < (s0_0.length : Int)) = false:=decide_eq_false c2;clear c2;simp only [Option.some.injEq,Prod.mk.injEq] at H;obtain ⟨rfl,rfl,rfl⟩:=H;obtain ⟨ASz5_0,cSz5_0,HGz5,hgz5,HSz5_0⟩:=HI0.out;have hcz5_0:=cellS58_0 HGz5;have hcz5_1:=cellS58_1 HGz5;have hcz5_2:=cellS58_2 HGz5;have hfz5_1:=blk_frozen HGz5 1;have hfz5_2:=blk_frozen HGz5 2;clear HGz5 hgz5
  go_enter Try.func33,Try.ntmps33
  go_wp2
  repeat (go_quiet (fail);try go_wp2)
  go_ret
  exact ⟨qq216,qq62,qq103,qq97⟩

/-! ### spec_l1Below: function 21 -/
def spec_l1Below.f (s0_0 : List Int) (s0_1 : Int) (s0_2 : Int) (a1 : Int) : Option (Int × Int × Int) := if a1 ≤ 0 then (some (0, s0_1, s0_2)) else (if a1 ≤ 256 then ((spec_l1Byte.f s0_0 s0_1 s0_2).bind fun bt105 => (if a1 = 0 then (none) else (some (Int.tmod bt105.1 a1, bt105.2.1, bt105.2.2)))) else ((spec_l1Byte.f s0_0 s0_1 s0_2).bind fun bt108 => ((spec_l1Byte.f s0_0 bt108.2.1 bt108.2.2).bind fun bt111 => ((spec_l1Byte.f s0_0 bt111.2.1 bt111.2.2).bind fun bt114 => (if a1 = 0 then (none) else (some (Int.tmod (wrap64 ((wrap64 ((wrap64 (bt108.1 * 65536)) + (wrap64 (bt111.1 * 256)))) + bt114.1)) a1, bt114.2.1, bt114.2.2)))))))
set_option maxHeartbeats 8000000 in
set_option maxRecDepth 100000 in
theorem spec_l1Below.calls (g : Nat) (s0_0 : List Int) (s0_1 : Int) (s0_2 : Int) (a1 : Int) (r1 : Int) (r2 : Int) (r3 : Int) (w0 w : World) (hI : IsS58 w0 w g s0_0 s0_1 s0_2) (hB : Below w0.heap.size w0 w) (h : spec_l1Below.f s0_0 s0_1 s0_2 a1 = some (r1, r2, r3)) :
  Calls Try.prog 21 #[.pointer (some ⟨g,0,none⟩),.int .i64 a1] w fun e w' => e = .returned (.int .i64 r1) ∧ IsS58 w0 w' g s0_0 r2 r3 ∧ Below w0.heap.size w0 w' ∧ KeepBut w w' g none:=by
 have HI0:=am hI;have HK:=am qq357;have HL:=am hB.size;clear hI;have HW0:=am hB.size;have HB:=am hB;clear hB;have H : (if a1 ≤ 0 then (some (0,s0_1,s0_2)) else (if a1 ≤ 256 then ((spec_l1Byte.f s0_0 s0_1 s0_2).bind fun bt105 => (if a1 = 0 then (none) else (some (Int.tmod bt105.1 a1,bt105.2.1,bt105.2.2)))) else ((spec_l1Byte.f s0_0 s0_1 s0_2).bind fun bt108 => ((spec_l1Byte.f s0_0 bt108.2.1 bt108.2.2).bind fun bt111 => ((spec_l1Byte.f s0_0 bt111.2.1 bt111.2.2).bind fun bt114 => (if a1 = 0 then (none) else (some (Int.tmod (wrap64 ((wrap64 ((wrap64 (bt108.1 * 65536)) + (wrap64 (bt111.1 * 256)))) + bt114.1)) a1,bt114.2.1,bt114.2.2)))))))) = some (r1,r2,r3):=h;clear h
 by_cases c3 : a1 ≤ 0
 ·rw [if_pos c3] at H;have c3b0 : decide (a1 ≤ 0) = true:=decide_eq_true c3;clear c3;simp only [Option.some.injEq,Prod.mk.injEq] at H;obtain ⟨rfl,rfl,rfl⟩:=H
  go_enter Try.func21,Try.ntmps21
  go_wp2
  go_ret
  exact ⟨qq216,qq62,qq103,qq97⟩
 ·rw [if_neg c3] at H;have c3b0 : decide (a1 ≤ 0) = false:=decide_eq_false c3;clear c3
  by_cases c4 : a1 ≤ 256
  ·rw [if_pos c4] at H;have c4b0 : decide (a1 ≤ 256) = true:=decide_eq_true c4;clear c4;replace H:=bS.mp H;obtain ⟨⟨t105,t106,t107⟩,A50,H⟩:=H;replace H : (if a1 = 0 then (none) else (some (Int.tmod t105 a1,t106,t107))) = some (r1,r2,r3):=H;have A5:=am A50;clear A50
   by_cases c6 : a1 = 0
   ·rw [if_pos c6] at H;exact absurd H (by simp)
   ·rw [if_neg c6] at H;have c6b0 : (a1 == 0) = false:=beq_eq_false_iff_ne.mpr c6;have c6b1 : (a1 != 0) = true:=bne_iff_ne.mpr c6;simp only [Option.some.injEq,Prod.mk.injEq] at H;obtain ⟨rfl,rfl,rfl⟩:=H
    go_enter Try.func21,Try.ntmps21
    go_wp2_with (first | ((with_reducible refine gate_callee (f:=33) rfl ?_);refine goesL_ (some 13) rfl rfl Try.func33 (by kernel_rfl) rfl #[.pointer (some ⟨g,0,none⟩)] rfl qq139 ?_;(with_reducible refine (spec_l1Byte.calls g s0_0 s0_1 s0_2 t105 t106 t107 w0 _ ?side1 ?side2 A5.out).mono ?_);(case side1 => exact qq62);(case side2 => exact qq103);rintro e w7 ⟨rfl,hi,hb,hk⟩;refine ⟨_,rfl,?_⟩;replace HK:=am qq339;replace HB:=am (hb);replace HI0:=am (hi);(try clear hb);(try clear hb2);(try clear hk);(try clear hi)))
    go_ret
    exact ⟨qq216,qq62,qq103,qq97⟩
  ·rw [if_neg c4] at H;have c4b0 : decide (a1 ≤ 256) = false:=decide_eq_false c4;clear c4;replace H:=bS.mp H;obtain ⟨⟨t108,t109,t110⟩,A80,H⟩:=H;replace H : ((spec_l1Byte.f s0_0 t109 t110).bind fun bt111 => ((spec_l1Byte.f s0_0 bt111.2.1 bt111.2.2).bind fun bt114 => (if a1 = 0 then (none) else (some (Int.tmod (wrap64 ((wrap64 ((wrap64 (t108 * 65536)) + (wrap64 (bt111.1 * 256)))) + bt114.1)) a1,bt114.2.1,bt114.2.2))))) = some (r1,r2,r3):=H;have A8:=am A80;clear A80;replace H:=bS.mp H;obtain ⟨⟨t111,t112,t113⟩,A90,H⟩:=H;replace H : ((spec_l1Byte.f s0_0 t112 t113).bind fun bt114 => (if a1 = 0 then (none) else (some (Int.tmod (wrap64 ((wrap64 ((wrap64 (t108 * 65536)) + (wrap64 (t111 * 256)))) + bt114.1)) a1,bt114.2.1,bt114.2.2)))) = some (r1,r2,r3):=H;have A9:=am A90;clear A90;replace H:=bS.mp H;obtain ⟨⟨t114,t115,t116⟩,A100,H⟩:=H;replace H : (if a1 = 0 then (none) else (some (Int.tmod (wrap64 ((wrap64 ((wrap64 (t108 * 65536)) + (wrap64 (t111 * 256)))) + t114)) a1,t115,t116))) = some (r1,r2,r3):=H;have A10:=am A100;clear A100
   by_cases c11 : a1 = 0
   ·rw [if_pos c11] at H;exact absurd H (by simp)
   ·rw [if_neg c11] at H;have c11b0 : (a1 == 0) = false:=beq_eq_false_iff_ne.mpr c11;have c11b1 : (a1 != 0) = true:=bne_iff_ne.mpr c11;simp only [Option.some.injEq,Prod.mk.injEq] at H;obtain ⟨rfl,rfl,rfl⟩:=H
    go_enter Try.func21,Try.ntmps21
    go_wp2_with (first | ((with_reducible refine gate_callee (f:=33) rfl ?_);refine goesL_ (some 17) rfl rfl Try.func33 (by kernel_rfl) rfl #[.pointer (some ⟨g,0,none⟩)] rfl qq139 ?_;(with_reducible refine (spec_l1Byte.calls g s0_0 s0_1 s0_2 t108 t109 t110 w0 _ ?side1 ?side2 A8.out).mono ?_);(case side1 => exact qq62);(case side2 => exact qq103);rintro e w12 ⟨rfl,hi,hb,hk⟩;refine ⟨_,rfl,?_⟩;replace HK:=am qq339;replace HB:=am (hb);replace HI0:=am (hi);(try clear hb);(try clear hb2);(try clear hk);(try clear hi)) | ((with_reducible refine gate_callee (f:=33) rfl ?_);refine goesL_ (some 19) rfl rfl Try.func33 (by kernel_rfl) rfl #[.pointer (some ⟨g,0,none⟩)] rfl qq139 ?_;(with_reducible refine (spec_l1Byte.calls g s0_0 t109 t110 t111 t112 t113 w0 _ ?side1 ?side2 A9.out).mono ?_);(case side1 => exact qq62);(case side2 => exact qq103);rintro e w13 ⟨rfl,hi,hb,hk⟩;refine ⟨_,rfl,?_⟩;replace HK:=am qq339;replace HB:=am (hb);replace HI0:=am (hi);(try clear hb);(try clear hb2);(try clear hk);(try clear hi)) | ((with_reducible refine gate_callee (f:=33) rfl ?_);refine goesL_ (some 21) rfl rfl Try.func33 (by kernel_rfl) rfl #[.pointer (some ⟨g,0,none⟩)] rfl qq139 ?_;(with_reducible refine (spec_l1Byte.calls g s0_0 t112 t113 t114 t115 t116 w0 _ ?side1 ?side2 A10.out).mono ?_);(case side1 => exact qq62);(case side2 => exact qq103);rintro e w14 ⟨rfl,hi,hb,hk⟩;refine ⟨_,rfl,?_⟩;replace HK:=am qq339;replace HB:=am (hb);replace HI0:=am (hi);(try clear hb);(try clear hb2);(try clear hk);(try clear hi)))
    go_ret
    exact ⟨qq216,qq62,qq103,qq97⟩

/-! ### spec_l1Int: function 24 -/
def spec_l1Int.f (s0_0 : List Int) (s0_1 : Int) (s0_2 : Int) (l1 : List Int) : Option (Int × Int × Int) := (spec_l1Below.f s0_0 s0_1 s0_2 (l1.length : Int)).bind fun bt117 => (if 0 ≤ bt117.1 then (if bt117.1 < (l1.length : Int) then (some (rd l1 bt117.1, bt117.2.1, bt117.2.2)) else (none)) else (none))
set_option maxHeartbeats 8000000 in
set_option maxRecDepth 100000 in
theorem spec_l1Int.calls (g : Nat) (s0_0 : List Int) (s0_1 : Int) (s0_2 : Int) (A1 : Option Addr) (c1 : Nat) (l1 : List Int) (r1 : Int) (r2 : Int) (r3 : Int) (w0 w : World) (hI : IsS58 w0 w g s0_0 s0_1 s0_2) (hB : Below w0.heap.size w0 w) (hr1 : Kd.C (Kd.int .i64) w A1 l1.length l1) (hc1 : l1.length ≤ c1) (hf1 : ∀ ad, A1 = some ad → 0 < l1.length → ad.block ≠ g) (h : spec_l1Int.f s0_0 s0_1 s0_2 l1 = some (r1, r2, r3)) :
  Calls Try.prog 24 #[.pointer (some ⟨g,0,none⟩),.slice A1 l1.length c1] w fun e w' => e = .returned (.int .i64 r1) ∧ IsS58 w0 w' g s0_0 r2 r3 ∧ Below w0.heap.size w0 w' ∧ KeepBut w w' g none:=by
 have HR1:=am hr1;have HC1:=am hc1;clear hr1 hc1;have HI0:=am hI;have HK:=am qq357;have HL:=am hB.size;clear hI;have HW0:=am hB.size;have HB:=am hB;clear hB;have H : ((spec_l1Below.f s0_0 s0_1 s0_2 (l1.length : Int)).bind fun bt117 => (if 0 ≤ bt117.1 then (if bt117.1 < (l1.length : Int) then (some (rd l1 bt117.1,bt117.2.1,bt117.2.2)) else (none)) else (none))) = some (r1,r2,r3):=h;clear h;replace H:=bS.mp H;obtain ⟨⟨t117,t118,t119⟩,A30,H⟩:=H;replace H : (if 0 ≤ t117 then (if t117 < (l1.length : Int) then (some (rd l1 t117,t118,t119)) else (none)) else (none)) = some (r1,r2,r3):=H;have A3:=am A30;clear A30
 by_cases c4 : 0 ≤ t117
 ·rw [if_pos c4] at H;have c4b0 : decide (0 ≤ t117) = true:=decide_eq_true c4;clear c4
  by_cases c5 : t117 < (l1.length : Int)
  ·rw [if_pos c5] at H;have c5b0 : decide (t117 < (l1.length : Int)) = true:=decide_eq_true c5;clear c5;simp only [Option.some.injEq,Prod.mk.injEq] at H;obtain ⟨rfl,rfl,rfl⟩:=H
   go_enter Try.func24,Try.ntmps24
   go_wp2_with (first | ((with_reducible refine gate_callee (f:=21) rfl ?_);refine goesL_ (some 9) rfl rfl Try.func21 (by kernel_rfl) rfl #[.pointer (some ⟨g,0,none⟩),.int .i64 (l1.length : Int)] rfl qq139 ?_;(with_reducible refine (spec_l1Below.calls g s0_0 s0_1 s0_2 (l1.length : Int) t117 t118 t119 w0 _ ?side1 ?side2 A3.out).mono ?_);(case side1 => exact qq62);(case side2 => exact qq103);rintro e w6 ⟨rfl,hi,hb,hk⟩;refine ⟨_,rfl,?_⟩;replace HK:=am qq339;replace HB:=am (hb);replace HI0:=am (hi);(try clear hb);(try clear hb2);(try clear hk);(try clear hi);have p120 : 0 ≤ (t117 : Int):=odt qq258;have q120 : t117 < (l1.length : Int):=odt qq258;obtain ⟨ad120,e120,hx120_0⟩:=Kd.at_int HR1.out t117 p120 q120;cases e120;replace hx120_0:=keep_cell HK.out hx120_0 (by first | (rw [add_block];exact hf1 _ rfl (by omega)) | exact hf1 _ rfl (by omega) | exact hf1 ad120 rfl (by omega));replace p120:=eq_true p120;replace q120:=eq_true q120))
   go_ret
   exact ⟨qq216,qq62,qq103,qq97⟩
  ·rw [if_neg c5] at H;exact absurd H (by simp)
 ·rw [if_neg c4] at H;exact absurd H (by simp)

/-! ### spec_l4Raw: function 42 -/
def spec_l4Raw.f (s0_0 : List Int) (s0_1 : Int) (s0_2 : Int) : Option (Int × Int × Int) := (spec_l1Int.f s0_0 s0_1 s0_2 (([(-1), 0, 8, 9, 64, 9223372036854775807, (-9223372036854775808)] : List Int))).bind fun bt124 => (some (bt124.1, bt124.2.1, bt124.2.2))
set_option maxHeartbeats 8000000 in
set_option maxRecDepth 100000 in
theorem spec_l4Raw.calls (g : Nat) (s0_0 : List Int) (s0_1 : Int) (s0_2 : Int) (r1 : Int) (r2 : Int) (r3 : Int) (w0 w : World) (hI : IsS58 w0 w g s0_0 s0_1 s0_2) (hB : Below w0.heap.size w0 w) (h : spec_l4Raw.f s0_0 s0_1 s0_2 = some (r1, r2, r3)) :
  Calls Try.prog 42 #[.pointer (some ⟨g,0,none⟩)] w fun e w' => e = .returned (.int .i64 r1) ∧ IsS58 w0 w' g s0_0 r2 r3 ∧ Below w0.heap.size w0 w' ∧ KeepBut w w' g none:=by
 have HI0:=am hI;have HK:=am qq357;have HL:=am hB.size;clear hI;have HW0:=am hB.size;have HB:=am hB;clear hB;have H : ((spec_l1Int.f s0_0 s0_1 s0_2 (([(-1),0,8,9,64,9223372036854775807,(-9223372036854775808)] : List Int))).bind fun bt124 => (some (bt124.1,bt124.2.1,bt124.2.2))) = some (r1,r2,r3):=h;clear h;obtain ⟨y121,hy121⟩ : ∃ y_ : List Int,y_ = (([(-1),0,8,9,64,9223372036854775807,(-9223372036854775808)] : List Int)):=⟨_,rfl⟩
 replace H : ((spec_l1Int.f s0_0 s0_1 s0_2 y121).bind fun bt124 => (some (bt124.1,bt124.2.1,bt124.2.2))) = some (r1,r2,r3):=by first | (rw [hy121];with_reducible exact H) | (have H2_:=(Option.bind_some _ _).symm.trans H;rw [hy121];with_reducible exact H2_) | (have H2_:=(Option.bind_some _ _).symm.trans H;with_reducible exact H2_) | with_reducible exact H | (rw [hy121];exact H) | exact H
 have Ny121:=am hy121;clear hy121;replace H:=bS.mp H;obtain ⟨⟨t124,t125,t126⟩,A20,H⟩:=H;replace H : (some (t124,t125,t126)) = some (r1,r2,r3):=H;have A2:=am A20;clear A20;simp only [Option.some.injEq,Prod.mk.injEq] at H;obtain ⟨rfl,rfl,rfl⟩:=H
 go_enter Try.func42,Try.ntmps42
 go_wp2_with (first | ((with_reducible refine gate_dst (N:=4) rfl ?_);refine Kd.R_lit (Kd.int .i64) _ 3 ?hg (N:=4) ?hd (xs:=([(-1),0,8,9,64,9223372036854775807,(-9223372036854775808)] : List Int)) (inner:=[.int .i64 (-1),.int .i64 0,.int .i64 8,.int .i64 9,.int .i64 64,.int .i64 9223372036854775807,.int .i64 (-9223372036854775808)]) (ok:=fun _ => True) (okp:=fun _ => True) ?hr ?hp (fun _ hk => hk) trivial (Below.refl _ _) (Nat.le_refl _) (by simp) ?_;(case hd => rfl);(case hg => rfl);(case hr => exact qq261);(case hp => exact (Reps.one (show Kd.M (Kd.int .i64) _ _ _ (-1) [.int .i64 (-1)] from rfl) (Reps.one (show Kd.M (Kd.int .i64) _ _ _ 0 [.int .i64 0] from rfl) (Reps.one (show Kd.M (Kd.int .i64) _ _ _ 8 [.int .i64 8] from rfl) (Reps.one (show Kd.M (Kd.int .i64) _ _ _ 9 [.int .i64 9] from rfl) (Reps.one (show Kd.M (Kd.int .i64) _ _ _ 64 [.int .i64 64] from rfl) (Reps.one (show Kd.M (Kd.int .i64) _ _ _ 9223372036854775807 [.int .i64 9223372036854775807] from rfl) (Reps.one (show Kd.M (Kd.int .i64) _ _ _ (-9223372036854775808) [.int .i64 (-9223372036854775808)] from rfl) (Reps.none _ _)))))))));intro v122 w3 ho4 hb hg_ hnew_;clear hg_ hnew_;(first | rw [← Ny121.out] at ho4 | (simp only [Int.reduceToNat] at ho4;rw [← Ny121.out] at ho4));have HO123:=am (Kd.R_lower ho4 (keep_size (w:=w) (g:=g) (row:=none) qq97));replace HK:=am qq335;replace HB:=am (below_step qq103 hb);replace HI0:=am (IsS58.below qq62 hb);clear hb ho4;obtain ⟨Ao5,co5,eo5⟩:=Kd.R_slice HO123.out;subst eo5) | ((with_reducible refine gate_callee (f:=24) rfl ?_);refine goesL_ (some 5) rfl rfl Try.func24 (by kernel_rfl) rfl #[.pointer (some ⟨g,0,none⟩),.slice Ao5 y121.length co5] rfl qq139 ?_;(with_reducible refine (spec_l1Int.calls g s0_0 s0_1 s0_2 _ _ y121 t124 t125 t126 w0 _ ?side1 ?side2 ?side3 ?side4 ?side5 A2.out).mono ?_);(case side1 => exact qq62);(case side2 => exact qq103);(case side3 => repeat (first | exact (Kd.R_reads' HO123.out).2.2 | (with_reducible refine cA ?_ _) | (with_reducible refine cN ?_ _) | (with_reducible refine cD ?_)));(case side4 => exact (Kd.R_reads' HO123.out).2.1);(case side5 => exact far_slice (IsS58.own_ne HI0.out HO123.out (by decide)));rintro e w6 ⟨rfl,hi,hb,hk⟩;refine ⟨_,rfl,?_⟩;replace HO123:=am (Kd.R_mono (Kd.R_keep (IsS58.apart (show IsS58 w0 _ g s0_0 s0_1 s0_2 from by repeat (first | (with_reducible first | exact HI0.out | apply IsS58.alloc | apply IsS58.drewN | apply IsS58.drew | apply IsS58.set_1 | apply IsS58.set_2) | exact HI0.out)) (by (with_reducible repeat (first | apply kA | apply kN | apply kD));exact HO123.out) (by decide)) hk (fun _ h => h.2)) (fun _ h => h.1));replace HK:=am qq339;replace HB:=am (hb);replace HI0:=am (hi);(try clear hb);(try clear hb2);(try clear hk);(try clear hi)))
 go_ret
 exact ⟨qq216,qq62,qq103,qq97⟩

/-! ### spec_l4Draw: function 49 -/
def spec_l4Draw.l0 : Nat → Int → List Int → Int → Int → Int → Int → List Int → Option (Int × Int × List Int × Int × Int)
 | 0,_,_,_,_,_,_,_ => none
 | k + 1,x4,x1000,x1001,x1002,x135000,x135001,x135002 => if x4 < (wrap64 (x135000 * x135001)) then ((spec_l1Int.f x1000 x1001 x1002 (([0,0,0,0,1,2] : List Int))).bind fun bt138 => (if x135002.length < 17592186044416 then (spec_l4Draw.l0 k (wrap64 (x4 + 1)) x1000 bt138.2.1 bt138.2.2 x135000 x135001 (x135002 ++ [bt138.1])) else (none))) else (if 0 < (x135002.length : Int) then (some (x135000,x135001,(x135002.set (0 : Int).toNat 0),x1001,x1002)) else (none))
def spec_l4Draw.f (k : Nat) (s0_0 : List Int) (s0_1 : Int) (s0_2 : Int) : Option (Int × Int × List Int × Int × Int) := (spec_l1Below.f s0_0 s0_1 s0_2 5).bind fun bt128 => ((spec_l1Below.f s0_0 bt128.2.1 bt128.2.2 4).bind fun bt131 => (spec_l4Draw.l0 k 0 s0_0 bt131.2.1 bt131.2.2 (wrap64 (2 + bt128.1)) (wrap64 (2 + bt131.1)) ([] : List Int)))
def spec_l4Draw.T5 : Bool × List (List Nat × List Nat) := (true, [([], []), ([0], [0]), ([], []), ([], []), ([2, 3], [2, 3]), ([4], [4]), ([1, 5, 4], [1, 5]), ([0, 1, 2, 3, 4, 5, 6], []), ([7, 6, 6, 0, 1, 2, 3, 4, 5, 6], [6, 7])])
def spec_l4Draw.B5 : List Nat := [0, 1, 0, 0, 12, 28, 63, 127, 255]
theorem spec_l4Draw.tab5 : rtab .any (opsOf Try.f49 5) = spec_l4Draw.T5 := by kernel_rfl
theorem spec_l4Draw.bits5 : waitsOk spec_l4Draw.T5.2 spec_l4Draw.B5 = true := by kernel_rfl
set_option maxHeartbeats 8000000 in
set_option maxRecDepth 100000 in
theorem spec_l4Draw.calls (k : Nat) (g : Nat) (s0_0 : List Int) (s0_1 : Int) (s0_2 : Int) (r1 : Int) (r2 : Int) (r3 : List Int) (r4 : Int) (r5 : Int) (w0 w : World) (hI : IsS58 w0 w g s0_0 s0_1 s0_2) (hB : Below w0.heap.size w0 w) (h : spec_l4Draw.f k s0_0 s0_1 s0_2 = some (r1, r2, r3, r4, r5)) :
  Calls Try.prog 49 #[.pointer (some ⟨g,0,none⟩)] w fun e w' => ∃ v2_ : Value,e = .returned (.agg #[.int .i64 r1,.int .i64 r2,v2_]) ∧ Kd.R (Kd.int .i64) 3 w' w.heap.size (fun _ => True) v2_ r3 ∧ IsS58 w0 w' g s0_0 r4 r5 ∧ Below w0.heap.size w0 w' ∧ KeepBut w w' g none:=by
 have hu26:=Try.underlying26;have HI0:=am hI;have HK:=am qq357;have HL:=am hB.size;clear hI;have HW0:=am hB.size;have HB:=am hB;clear hB;have H : ((spec_l1Below.f s0_0 s0_1 s0_2 5).bind fun bt128 => ((spec_l1Below.f s0_0 bt128.2.1 bt128.2.2 4).bind fun bt131 => (spec_l4Draw.l0 k 0 s0_0 bt131.2.1 bt131.2.2 (wrap64 (2 + bt128.1)) (wrap64 (2 + bt131.1)) ([] : List Int)))) = some (r1,r2,r3,r4,r5):=h;clear h;replace H:=bS.mp H;obtain ⟨⟨t128,t129,t130⟩,A20,H⟩:=H;replace H : ((spec_l1Below.f s0_0 t129 t130 4).bind fun bt131 => (spec_l4Draw.l0 k 0 s0_0 bt131.2.1 bt131.2.2 (wrap64 (2 + t128)) (wrap64 (2 + bt131.1)) ([] : List Int))) = some (r1,r2,r3,r4,r5):=H;have A2:=am A20;clear A20;replace H:=bS.mp H;obtain ⟨⟨t131,t132,t133⟩,A30,H⟩:=H;replace H : (spec_l4Draw.l0 k 0 s0_0 t132 t133 (wrap64 (2 + t128)) (wrap64 (2 + t131)) ([] : List Int)) = some (r1,r2,r3,r4,r5):=H;have A3:=am A30;clear A30;have H':=am H;clear H
 go_enter Try.func49,Try.ntmps49
 go_wp2_with (first | ((with_reducible refine gate_dst (N:=2) rfl ?_);refine box_event ?hg (N:=2) ?hd (cs:=#[.int .i64 0,.int .i64 0,.slice none 0 0]) (t:=26) ?hr ?_;(case hd => rfl);(case hg => rfl);(case hr => exact qq261);intro gb127 hg w4 hbox hb;replace HB:=am (below_step qq103 hb);have BK127:=am (hbox);have GW127:=am ((qq54 : w.heap.size ≤ gb127));have GE127:=am ((Nat.le_trans HW0.out (qq54 : w.heap.size ≤ gb127) : w0.heap.size ≤ gb127));replace HK:=am qq335;have NB0_127:=am ((qq25 : g ≠ gb127));have NB127_0:=am ((qq26 : gb127 ≠ g));replace HI0:=am (IsS58.below qq62 hb);clear hb hbox hg) | ((with_reducible refine gate_callee (f:=21) rfl ?_);refine goesL_ (some 6) rfl rfl Try.func21 (by kernel_rfl) rfl #[.pointer (some ⟨g,0,none⟩),.int .i64 5] rfl qq139 ?_;(with_reducible refine (spec_l1Below.calls g s0_0 s0_1 s0_2 5 t128 t129 t130 w0 _ ?side1 ?side2 A2.out).mono ?_);(case side1 => exact qq53);(case side2 => exact qq61);rintro e w5 ⟨rfl,hi,hb,hk⟩;refine ⟨_,rfl,?_⟩;replace BK127:=am qq297;replace HK:=am (KeepBut.trans qq58 hk (.inl rfl));replace HB:=am (hb);replace HI0:=am (hi);(try clear hb);(try clear hb2);(try clear hk);(try clear hi)) | ((with_reducible refine gate_callee (f:=21) rfl ?_);refine goesL_ (some 9) rfl rfl Try.func21 (by kernel_rfl) rfl #[.pointer (some ⟨g,0,none⟩),.int .i64 4] rfl qq139 ?_;(with_reducible refine (spec_l1Below.calls g s0_0 t129 t130 4 t131 t132 t133 w0 _ ?side1 ?side2 A3.out).mono ?_);(case side1 => exact qq53);(case side2 => exact qq61);rintro e w6 ⟨rfl,hi,hb,hk⟩;refine ⟨_,rfl,?_⟩;replace BK127:=am qq297;replace HK:=am (KeepBut.trans qq58 hk (.inl rfl));replace HB:=am (hb);replace HI0:=am (hi);(try clear hb);(try clear hb2);(try clear hk);(try clear hi)) | ((with_reducible refine gate_dst (N:=3) rfl ?_);refine box_event ?hg (N:=3) ?hd (cs:=#[.int .i64 0,.int .i64 0,.slice none 0 0]) (t:=26) ?hr ?_;(case hd => rfl);(case hg => rfl);(case hr => exact qq261);intro gb134 hg w7 hbox hb;replace HB:=am (below_step qq61 hb);have BK134:=am (hbox);have GW134:=am ((qq36 : w.heap.size ≤ gb134));have GE134:=am ((Nat.le_trans HW0.out (qq36 : w.heap.size ≤ gb134) : w0.heap.size ≤ gb134));replace HK:=am (KeepBut.trans qq58 (KeepBut.of_below hb g none) (.inl rfl));have NB127_134:=am ((by rw [hg];exact Nat.ne_of_lt (blk_lt (g:=gb127) (o:=.cells #[.int .i64 0,.int .i64 0,.slice none 0 0] 26 (0,0)) qq214) : gb127 ≠ gb134));have NB134_127:=am ((by rw [hg];exact Nat.ne_of_gt (blk_lt (g:=gb127) (o:=.cells #[.int .i64 0,.int .i64 0,.slice none 0 0] 26 (0,0)) qq214) : gb134 ≠ gb127));replace BK127:=am qq323;have NB0_134:=am ((by rw [hg];exact Nat.ne_of_lt (IsS58.lt (show IsS58 w0 _ g s0_0 t132 t133 from by repeat (first | (with_reducible first | exact HI0.out | apply IsS58.alloc | apply IsS58.drewN | apply IsS58.drew | apply IsS58.set_1 | apply IsS58.set_2 | refine IsS58.far ?_ NB0_127.out _) | exact HI0.out))) : g ≠ gb134));have NB134_0:=am ((by rw [hg];exact Nat.ne_of_gt (IsS58.lt (show IsS58 w0 _ g s0_0 t132 t133 from by repeat (first | (with_reducible first | exact HI0.out | apply IsS58.alloc | apply IsS58.drewN | apply IsS58.drew | apply IsS58.set_1 | apply IsS58.set_2 | refine IsS58.far ?_ NB0_127.out _) | exact HI0.out))) : gb134 ≠ g));replace HI0:=am (IsS58.below qq53 hb);clear hb hbox hg;have hnb8:=NB134_127.out;have hnc8:=NB127_134.out;have hnb9:=NB134_0.out;have hnc9:=NB0_134.out;obtain ⟨hcz10_0,hcz10_1,hcz10_2,hfz10_0,hfz10_1,hfz10_2⟩:=bcl3 BK134.out))
 go_loopg [4] k (fun kq v4 w' => ∃ (x4_1 : Int) (x1001_1 : Int) (x1002_1 : Int) (x135002_1 : List Int) (u135002 : Value),v4 = .int .i64 x4_1 ∧ Aside0 (spec_l4Draw.l0 kq x4_1 s0_0 x1001_1 x1002_1 (wrap64 (2 + t128)) (wrap64 (2 + t131)) x135002_1 = some (r1,r2,r3,r4,r5)) ∧ Aside0 (kq ≤ k) ∧ Aside0 (Kd.R (Kd.int .i64) 3 w' w.heap.size (fun _ => True) u135002 x135002_1) ∧ Aside0 (w'.heap[gb127]? = some (.cells #[.int .i64 0,.int .i64 0,(.slice none 0 0)] 26 (0,0))) ∧ Aside0 (w'.heap[gb134]? = some (.cells #[.int .i64 (wrap64 (2 + t128)),.int .i64 (wrap64 (2 + t131)),u135002] 26 (0,0))) ∧ Aside0 (IsS58 w0 w' g s0_0 x1001_1 x1002_1) ∧ Aside0 (KeepBut w w' g none) ∧ Aside0 (Below w0.heap.size w0 w'))
 case atStart => exact ⟨(0),(t132),(t133),(([] : List Int)),(.slice none 0 0),qq260,H',⟨Nat.le_refl _⟩,⟨qq105⟩,⟨by (with_reducible repeat (first | refine dN ?_ _ | refine dD ?_ | refine dA ?_ _));refine blk_far ?_ NB127_134.out _;(with_reducible repeat (first | refine dN ?_ _ | refine dD ?_ | refine dA ?_ _));refine blk_far ?_ NB127_134.out _;(with_reducible repeat (first | refine dN ?_ _ | refine dD ?_ | refine dA ?_ _));refine blk_far ?_ NB127_134.out _;(with_reducible repeat (first | refine dN ?_ _ | refine dD ?_ | refine dA ?_ _));exact BK127.out⟩,⟨by (with_reducible repeat (first | refine dN ?_ _ | refine dD ?_ | refine dA ?_ _));refine blk_put (cs:=#[.int .i64 (wrap64 (2 + t128)),.int .i64 (wrap64 (2 + t131)),.slice none 0 0]) ?_ 2 _ rfl;(with_reducible repeat (first | refine dN ?_ _ | refine dD ?_ | refine dA ?_ _));refine blk_put (cs:=#[.int .i64 (wrap64 (2 + t128)),.int .i64 0,.slice none 0 0]) ?_ 1 _ rfl;(with_reducible repeat (first | refine dN ?_ _ | refine dD ?_ | refine dA ?_ _));refine blk_put (cs:=#[.int .i64 0,.int .i64 0,.slice none 0 0]) ?_ 0 _ rfl;(with_reducible repeat (first | refine dN ?_ _ | refine dD ?_ | refine dA ?_ _));exact BK134.out⟩,⟨qq34⟩,⟨qq40⟩,⟨qq51⟩⟩
 case round =>
  clear H'
  try clear c2
  try clear p2
  try clear c4
  try clear p6
  try clear c8
  try clear c9
  try clear hcz10_0
  try clear hcz10_1
  try clear hcz10_2
  try clear hfz10_0
  try clear hfz10_1
  try clear hfz10_2
  obtain ⟨x4_1,x1001_1,x1002_1,x135002_1,u135002,rfl,HA,HK1,HO_135002,BK127,BK134,HI0,HK,HB⟩:=hrel
  cases gk with
  | zero => exact absurd HA.out (by simp [spec_l4Draw.l0])
  | succ k1 =>
   have H:=HA.out;clear HA;simp only [spec_l4Draw.l0] at H
   by_cases c11 : x4_1 < (wrap64 ((wrap64 (2 + t128)) * (wrap64 (2 + t131))))
   ·rw [if_pos c11] at H;have c11b0 : decide (x4_1 < (wrap64 ((wrap64 (2 + t128)) * (wrap64 (2 + t131))))) = true:=decide_eq_true c11;clear c11;obtain ⟨y135,hy135⟩ : ∃ y_ : List Int,y_ = (([0,0,0,0,1,2] : List Int)):=⟨_,rfl⟩
    replace H : ((spec_l1Int.f s0_0 x1001_1 x1002_1 y135).bind fun bt138 => (if x135002_1.length < 17592186044416 then (spec_l4Draw.l0 k1 (wrap64 (x4_1 + 1)) s0_0 bt138.2.1 bt138.2.2 (wrap64 (2 + t128)) (wrap64 (2 + t131)) (x135002_1 ++ [bt138.1])) else (none))) = some (r1,r2,r3,r4,r5):=by first | (rw [hy135];with_reducible exact H) | (have H2_:=(Option.bind_some _ _).symm.trans H;rw [hy135];with_reducible exact H2_) | (have H2_:=(Option.bind_some _ _).symm.trans H;with_reducible exact H2_) | with_reducible exact H | (rw [hy135];exact H) | exact H
    have Ny135:=am hy135;clear hy135;replace H:=bS.mp H;obtain ⟨⟨t138,t139,t140⟩,A120,H⟩:=H;replace H : (if x135002_1.length < 17592186044416 then (spec_l4Draw.l0 k1 (wrap64 (x4_1 + 1)) s0_0 t139 t140 (wrap64 (2 + t128)) (wrap64 (2 + t131)) (x135002_1 ++ [t138])) else (none)) = some (r1,r2,r3,r4,r5):=H;have A12:=am A120;clear A120
    by_cases c13 : x135002_1.length < 17592186044416
    ·rw [if_pos c13] at H;have LMc13:=am c13;clear c13;obtain ⟨y141,hy141⟩ : ∃ y_ : List Int,y_ = (x135002_1 ++ [t138]):=⟨_,rfl⟩
     replace H : (spec_l4Draw.l0 k1 (wrap64 (x4_1 + 1)) s0_0 t139 t140 (wrap64 (2 + t128)) (wrap64 (2 + t131)) y141) = some (r1,r2,r3,r4,r5):=by first | (rw [hy141];with_reducible exact H) | (have H2_:=(Option.bind_some _ _).symm.trans H;rw [hy141];with_reducible exact H2_) | (have H2_:=(Option.bind_some _ _).symm.trans H;with_reducible exact H2_) | with_reducible exact H | (rw [hy141];exact H) | exact H
     have Ny141:=am hy141;clear hy141;have H':=am H;clear H;have hnb14:=NB134_127.out;have hnc14:=NB127_134.out;have hnb15:=NB134_0.out;have hnc15:=NB0_134.out;obtain ⟨hcz16_0,hcz16_1,hcz16_2,hfz16_0,hfz16_1,hfz16_2⟩:=bcl3 BK134.out
     try go_wp2
     replace HO_135002:=am (Kd.R_drew HO_135002.out);replace BK127:=am (blk_drew BK127.out);replace BK134:=am (blk_drew BK134.out);replace HI0:=am (IsS58.drew HI0.out);replace HK:=am (keep_drew HK.out);replace HB:=am qq374;refine start_ (n:=9) (S:=fun w' => w'.cell? ⟨gb134,0,none⟩ = some (.int .i64 (wrap64 (2 + t128))) ∧ w'.cell? ⟨gb134,1,none⟩ = some (.int .i64 (wrap64 (2 + t131))) ∧ w'.cell? ⟨gb134,2,none⟩ = some (u135002)) (ds:=[8]) #[Z,Z,Z,Z,Z,Z,Z,Z,Z] (by kernel_rfl) rfl rfl ⟨(blk_cell BK134.out 0).trans rfl,(blk_cell BK134.out 1).trans rfl,(blk_cell BK134.out 2).trans rfl⟩ (fun hHeld => ?_);refine with_tabW spec_l4Draw.tab5 spec_l4Draw.bits5 (fun HT_ HW_ => ?_)
     generalize wr.drew = w17 at HO_135002 BK127 BK134 HI0 HK HB hHeld ⊢
     refine pV (i:=0) (N:=some 21) #[Y,Z,Z,Z,Z,Z,Z,Z,Z] rfl rfl qT ?_
     refine pV (i:=2) (N:=some 23) #[Y,Z,Y,Z,Z,Z,Z,Z,Z] rfl rfl qT ?_
     refine tV3 (i:=1) (N:=some 22) #[Y,Y,Y,Z,Z,Z,Z,Z,Z] rfl rfl (take_ofW HT_.out HW_.out (by kernel_rfl)) hHeld ?_
     refine one_ (i:=3) (N:=some 24) #[Y,Y,Y,Y,Z,Z,Z,Z,Z] rfl rfl (one_of HT_.out (by kernel_rfl)) (by decide) (fun K hK => ?_);refine Kd.R_lit_step (Kd.int .i64) _ 3 ?hg (N:=24) ?hd (xs:=([0,0,0,0,1,2] : List Int)) (inner:=[.int .i64 0,.int .i64 0,.int .i64 0,.int .i64 0,.int .i64 1,.int .i64 2]) (ok:=fun _ => True) (okp:=fun _ => True) ?hr ?hp (fun _ hk => hk) trivial (Below.refl _ _) (Nat.le_refl _) (by simp) ?_;(case hd => rfl);(case hg => rfl);(case hr => exact qq261);(case hp => exact (Reps.one (show Kd.M (Kd.int .i64) _ _ _ 0 [.int .i64 0] from rfl) (Reps.one (show Kd.M (Kd.int .i64) _ _ _ 0 [.int .i64 0] from rfl) (Reps.one (show Kd.M (Kd.int .i64) _ _ _ 0 [.int .i64 0] from rfl) (Reps.one (show Kd.M (Kd.int .i64) _ _ _ 0 [.int .i64 0] from rfl) (Reps.one (show Kd.M (Kd.int .i64) _ _ _ 1 [.int .i64 1] from rfl) (Reps.one (show Kd.M (Kd.int .i64) _ _ _ 2 [.int .i64 2] from rfl) (Reps.none _ _))))))));intro v136 w18 ho19 hb hg_ hnew_;clear hg_ hnew_;(first | rw [← Ny135.out] at ho19 | (simp only [Int.reduceToNat] at ho19;rw [← Ny135.out] at ho19));have HO137:=am (Kd.R_lower (Kd.R_new' ho19 (Kd.R_lt qq221)) (keep_size (w:=w) (g:=g) (row:=none) qq40));replace HO_135002:=am (Kd.R_elder' qq221 (Kd.R_base ho19) hb);replace BK127:=am qq323;replace BK134:=am (blk_below (g:=gb134) (o:=.cells #[.int .i64 (wrap64 (2 + t128)),.int .i64 (wrap64 (2 + t131)),u135002] 26 (0,0)) qq213 hb);replace HK:=am (KeepBut.trans qq40 (KeepBut.of_below hb g none) (.inl rfl));replace HB:=am (below_step qq51 hb);replace HI0:=am (IsS58.below qq34 hb);clear hb ho19;obtain ⟨Ao20,co20,eo20⟩:=Kd.R_slice HO137.out;(first | subst eo20 | (injection eo20 with f1_ f2_ f3_;have f4_:=f1_.symm;have f5_:=f3_.symm;clear f1_ f2_ f3_;subst f4_;subst f5_));refine hK.out _ _ ⟨(blk_cell BK134.out 0).trans rfl,(blk_cell BK134.out 1).trans rfl,(blk_cell BK134.out 2).trans rfl⟩ (fun hHeld => ?_);clear hK K;refine norm_ (a':=?_) ?_ ?_;rotate_left
     ·show Act.put _ (some 24) _ = _
      simp only [Act.put,sA,s0,s1,i64_w,i32_w];rfl
     refine one_ (i:=4) (N:=some 25) #[Y,Y,Y,Y,Y,Z,Z,Z,Z] rfl rfl (one_of HT_.out (by kernel_rfl)) (by decide) (fun K hK => ?_);refine goes_ Try.func24 (by kernel_rfl) rfl #[.pointer (some ⟨g,0,none⟩),.slice Ao20 y135.length co20] (by rfl) rfl rfl qq139 ?_;with_reducible refine (spec_l1Int.calls g s0_0 x1001_1 x1002_1 _ _ y135 t138 t139 t140 w0 _ ?side1 ?side2 ?side3 ?side4 ?side5 A12.out).mono ?_
     (case side1 => exact qq34);(case side2 => exact qq51);(case side3 => repeat (first | exact (Kd.R_reads' HO137.out).2.2 | (with_reducible refine cA ?_ _) | (with_reducible refine cN ?_ _) | (with_reducible refine cD ?_)));(case side4 => exact (Kd.R_reads' HO137.out).2.1);(case side5 => exact far_slice (IsS58.own_ne HI0.out HO137.out (by decide)))
     rintro e w21 ⟨rfl,hi,hb,hk⟩
     refine ⟨_,rfl,?_⟩;replace HO_135002:=am (Kd.R_mono (Kd.R_keep (IsS58.apart (show IsS58 w0 _ g s0_0 x1001_1 x1002_1 from by repeat (first | (with_reducible first | exact HI0.out | apply IsS58.alloc | apply IsS58.drewN | apply IsS58.drew | apply IsS58.set_1 | apply IsS58.set_2 | refine IsS58.far ?_ NB0_127.out _ | refine IsS58.far ?_ NB0_134.out _) | exact HI0.out)) qq221 (by decide)) hk (fun _ h => h.2)) (fun _ h => h.1));replace BK127:=am qq297;replace BK134:=am (KeepBut.blk hk (g':=gb134) (o:=.cells #[.int .i64 (wrap64 (2 + t128)),.int .i64 (wrap64 (2 + t131)),u135002] 26 (0,0)) qq213 NB134_0.out (by simp));replace HO137:=am (Kd.R_mono (Kd.R_keep (IsS58.apart (show IsS58 w0 _ g s0_0 x1001_1 x1002_1 from by repeat (first | (with_reducible first | exact HI0.out | apply IsS58.alloc | apply IsS58.drewN | apply IsS58.drew | apply IsS58.set_1 | apply IsS58.set_2 | refine IsS58.far ?_ NB0_127.out _ | refine IsS58.far ?_ NB0_134.out _) | exact HI0.out)) qq245 (by decide)) hk (fun _ h => h.2)) (fun _ h => h.1));replace HK:=am (KeepBut.trans qq40 hk (.inl rfl));replace HB:=am (hb);replace HI0:=am (hi);(try clear hb);(try clear hb2);(try clear hk);(try clear hi);refine hK.out _ _ ⟨(blk_cell BK134.out 0).trans rfl,(blk_cell BK134.out 1).trans rfl,(blk_cell BK134.out 2).trans rfl⟩ (fun hHeld => ?_);clear hK K;refine norm_ (a':=?_) ?_ ?_;rotate_left
     ·show Act.put _ (some 25) _ = _
      simp only [Act.put,sA,s0,s1,i64_w,i32_w];rfl
     refine one_ (i:=5) (N:=some 26) #[Y,Y,Y,Y,Y,Y,Z,Z,Z] rfl rfl (one_of HT_.out (by kernel_rfl)) (by decide) (fun K hK => ?_);refine value_ (w1:=?_) (v:=?_) (by rfl) rfl ?_ ?_;rotate_left 2
     ·go_simp
      constructor
      ·rfl
      ·rfl
     refine hK.out _ _ ⟨(blk_cell (blk_alloc BK134.out _) 0).trans rfl,(blk_cell (blk_alloc BK134.out _) 1).trans rfl,(blk_cell (blk_alloc BK134.out _) 2).trans rfl⟩ (fun hHeld => ?_);clear hK K;refine norm_ (a':=?_) ?_ ?_;rotate_left
     ·show Act.put _ (some 26) _ = _
      simp only [Act.put,sA,s0,s1,i64_w,i32_w];rfl
     refine one_ (i:=6) (N:=some 27) #[Y,Y,Y,Y,Y,Y,Y,Z,Z] rfl rfl (one_of HT_.out (by kernel_rfl)) (by decide) (fun K hK => ?_);refine Kd.R_append_step (Kd.int .i64) w.heap.size (by rfl) (.tmp 22) (.tmp 26) 24 3 (.int .i64 0) 8 rfl Try.underlying24 info3 rfl (by decide) (by omega) u135002 x135002_1 t138 [.int .i64 t138] (fun k_ => some k_ ≠ (.slice Ao20 y135.length co20 : Value).ownBlock) (fun _ => False) rfl rfl ?aP (fun _ hk => hk.elim) ?aF ?aO (Below.refl _ _) ?aS ?aL ?_;(case aP => exact rfl);(case aF => exact (fun k_ hk => Kd.fresh' (Kd.R_lt qq245) k_ hk));(case aO => exact (by (with_reducible repeat (first | apply kA | apply kN | apply kD));exact Kd.R_mono HO_135002.out (fun _ hk => hk.2)));(case aS => exact (keep_size (w:=w) (g:=g) (row:=none) qq40));(case aL => have:=LMc13.out;omega);intro v142 w22 ho hb hg hat;rw [← Ny141.out] at ho;replace BK127:=am qq288;replace BK134:=am (blk_grown (g:=gb134) (o:=.cells #[.int .i64 (wrap64 (2 + t128)),.int .i64 (wrap64 (2 + t131)),u135002] 26 (0,0)) qq213 hg (Kd.R_ne HO_135002.out BK134.out (by decide)));replace HO137:=am (Kd.R_after (ok:=(fun _ => True)) qq245 hg hat);replace HB:=am (below_weaken qq51 HL.out hb);replace HI0:=am (IsS58.grown qq34 hg (IsS58.own_ne HI0.out HO_135002.out (by decide)));replace HK:=am (KeepBut.trans qq40 (KeepBut.of_grown hg g) (Kd.R_base2 HO_135002.out));have HO143:=am (ho);clear HO_135002;clear ho hb hg hat;obtain ⟨Ao23,co23,eo23⟩:=Kd.R_slice HO143.out;(first | subst eo23 | (injection eo23 with f1_ f2_ f3_;have f4_:=f1_.symm;have f5_:=f3_.symm;clear f1_ f2_ f3_;subst f4_;subst f5_));refine hK.out _ _ ⟨(blk_cell BK134.out 0).trans rfl,(blk_cell BK134.out 1).trans rfl,(blk_cell BK134.out 2).trans rfl⟩ (fun hHeld => ?_);clear hK K;refine norm_ (a':=?_) ?_ ?_;rotate_left
     ·show Act.put _ (some 27) _ = _
      simp only [Act.put,sA,s0,s1,i64_w,i32_w];rfl
     refine pV (i:=7) (N:=some 28) #[Y,Y,Y,Y,Y,Y,Y,Y,Z] rfl rfl qT ?_
     refine last_ (i:=8) (N:=none) #[Y,Y,Y,Y,Y,Y,Y,Y,Y] rfl rfl (one_of HT_.out (by kernel_rfl)) (by decide) (fun K hK => ?_);have hs24 : w22.cell? ⟨gb134,2,none⟩ = some (u135002):=(blk_cell BK134.out 2).trans rfl;have hfs24:=blk_frozen BK134.out 2;have hns24_0:=NB127_134.out;have hms24_0:=NB134_127.out;refine skip_ (w1:=?_) (by rfl) rfl ?_ ?_;rotate_left
     ·go_simp;rfl
     refine hK.out _ _ ?_;clear hK K;refine done_ (done_of HT_.out (by kernel_rfl)) ?_
     try go_wp2
     go_roundg k1
     case measure => have:=HK1.out;omega
     case rel => exact ⟨(wrap64 (x4_1 + 1)),(t139),(t140),(y141),(.slice Ao23 y141.length co23),qq260,H',⟨qq275⟩,⟨by (with_reducible repeat (first | apply kA | apply kN | apply kD));exact Kd.R_mono (Kd.R_far (p:=⟨gb134,2,none⟩) (Kd.R_types HO143.out BK134.out (by decide)) (fun _ hk => hk.2) (.slice Ao23 y141.length co23)) (fun _ hk => trivial)⟩,⟨by (with_reducible repeat (first | refine dN ?_ _ | refine dD ?_ | refine dA ?_ _));refine blk_far ?_ NB127_134.out _;(with_reducible repeat (first | refine dN ?_ _ | refine dD ?_ | refine dA ?_ _));exact BK127.out⟩,⟨by (with_reducible repeat (first | refine dN ?_ _ | refine dD ?_ | refine dA ?_ _));refine blk_put (cs:=#[.int .i64 (wrap64 (2 + t128)),.int .i64 (wrap64 (2 + t131)),u135002]) ?_ 2 _ rfl;(with_reducible repeat (first | refine dN ?_ _ | refine dD ?_ | refine dA ?_ _));exact BK134.out⟩,⟨qq34⟩,⟨qq40⟩,⟨qq51⟩⟩
    ·rw [if_neg c13] at H;exact absurd H (by simp)
   ·rw [if_neg c11] at H;have c11b0 : decide (x4_1 < (wrap64 ((wrap64 (2 + t128)) * (wrap64 (2 + t131))))) = false:=decide_eq_false c11;clear c11
    by_cases c25 : 0 < (x135002_1.length : Int)
    ·rw [if_pos c25] at H;have c25b0 : decide (0 < (x135002_1.length : Int)) = true:=decide_eq_true c25;have c25b1 : decide (0 < x135002_1.length) = true:=decide_eq_true (by omega);clear c25;obtain ⟨y144,hy144⟩ : ∃ y_ : List Int,y_ = (x135002_1.set (0 : Int).toNat 0):=⟨_,rfl⟩
     replace H : (some ((wrap64 (2 + t128)),(wrap64 (2 + t131)),y144,x1001_1,x1002_1)) = some (r1,r2,r3,r4,r5):=by first | (rw [hy144];with_reducible exact H) | (have H2_:=(Option.bind_some _ _).symm.trans H;rw [hy144];with_reducible exact H2_) | (have H2_:=(Option.bind_some _ _).symm.trans H;with_reducible exact H2_) | with_reducible exact H | (rw [hy144];exact H) | exact H
     have Ny144:=am hy144;clear hy144;simp only [Option.some.injEq,Prod.mk.injEq] at H;obtain ⟨rfl,rfl,rfl,rfl,rfl⟩:=H;have hnb27:=NB134_127.out;have hnc27:=NB127_134.out;have hnb28:=NB134_0.out;have hnc28:=NB0_134.out;obtain ⟨hcz29_0,hcz29_1,hcz29_2,hfz29_0,hfz29_1,hfz29_2⟩:=bcl3 BK134.out;have p26 : 0 ≤ (0 : Int):=(by omega)
     have q26 : (0 : Int) < ((x135002_1.length : Int) : Int):=odt qq258;have qi26 : (0 < x135002_1.length) = True:=eq_true (by omega);obtain ⟨go26,co26,eo26,gb26,gl26,cl26,HG26⟩:=Kd.R_form HO_135002.out (by omega);(first | cases eo26 | (injection eo26 with ea_ en_ ec_;(first | subst ea_ | (injection ea_ with ea_;subst ea_));subst ec_;clear en_));have GB26:=am gb26;have GG26:=am HG26;clear gb26 gl26 HG26;obtain ⟨hx26_0,hf26_0⟩:=Kd.R_celln 0 HO_135002.out (0 : Int) p26 q26;(try rw [show ((0 : Int)).toNat = 0 from rfl] at hx26_0);(try simp only [Nat.reduceMul,Nat.zero_mul,Nat.zero_add,Nat.reduceAdd] at hx26_0);(try rw [show ((0 : Int)).toNat = 0 from rfl] at hf26_0);(try simp only [Nat.reduceMul,Nat.zero_mul,Nat.zero_add,Nat.reduceAdd] at hf26_0);replace p26:=eq_true p26;replace q26:=eq_true q26;have HP30:=Kd.R_putg HO_135002.out (0 : Int) 0;go_wp2_with (first | ((with_reducible refine gate_store (t:=3) (p:=31) rfl ?_);refine store_event (t:=3) (p:=31) (v:=?vo_w31) (w1:=(wr.setCell ⟨go26,(0 : Int).toNat,none⟩ (.int .i64 0))) ?hg ?ho ?hn ?hr ?_;(case ho => rfl);(case hg => rfl);(case hn => rfl);(case hr => exact qq261);intro w31 hw;have hg : wr.grownBy w31 (some go26):=(by rw [hw];exact HP30.2);have hp_ : Kd.R (Kd.int .i64) 3 w31 w.heap.size (fun _ => True) (.slice (some ⟨go26,0,none⟩) x135002_1.length co26) y144:=(by rw [hw,Ny144.out];exact HP30.1);clear HP30;replace BK127:=am qq288;replace BK134:=am (blk_grown (g:=gb134) (o:=.cells #[.int .i64 (wrap64 (2 + t128)),.int .i64 (wrap64 (2 + t131)),.slice (some ⟨go26,0,none⟩) x135002_1.length co26] 26 (0,0)) qq213 hg (Kd.R_ne HO_135002.out BK134.out (by decide)));replace HI0:=am (IsS58.grown qq34 hg (IsS58.own_ne HI0.out HO_135002.out (by decide)));replace HB:=am ((by rw [hw];exact below_set (HB.out) (Nat.le_trans HL.out GB26.out) : Below w0.heap.size w0 w31));replace HK:=am (KeepBut.trans qq40 (KeepBut.of_grown hg g) (Kd.R_base2 HO_135002.out));replace HO_135002:=am (hp_);clear hg hw hp_;obtain ⟨hcz32_0,hcz32_1,hcz32_2,hfz32_0,hfz32_1,hfz32_2⟩:=bcl3 BK134.out;have hnb33:=NB127_0.out;have hnc33:=NB0_127.out;obtain ⟨hcz34_0,hcz34_1,hcz34_2,hfz34_0,hfz34_1,hfz34_2⟩:=bcl3 BK127.out))
     refine bodyPost_ret (results_cell_row rfl _ _ gb127 26 #[.int .i64 (wrap64 (2 + t128)),.int .i64 (wrap64 (2 + t131)),.slice (some ⟨go26,0,none⟩) x135002_1.length co26] (0,0) _ rfl (by (with_reducible repeat (first | refine dN ?_ _ | refine dD ?_ | refine dA ?_ _));refine blk_put (cs:=#[.int .i64 (wrap64 (2 + t128)),.int .i64 (wrap64 (2 + t131)),.slice none 0 0]) ?_ 2 _ rfl;(with_reducible repeat (first | refine dN ?_ _ | refine dD ?_ | refine dA ?_ _));refine blk_put (cs:=#[.int .i64 (wrap64 (2 + t128)),.int .i64 0,.slice none 0 0]) ?_ 1 _ rfl;(with_reducible repeat (first | refine dN ?_ _ | refine dD ?_ | refine dA ?_ _));refine blk_put (cs:=#[.int .i64 0,.int .i64 0,.slice none 0 0]) ?_ 0 _ rfl;(with_reducible repeat (first | refine dN ?_ _ | refine dD ?_ | refine dA ?_ _));exact BK127.out) Try.underlying26 rfl (by kernel_rfl)) rfl ?_;exact ⟨_,qq216,by (with_reducible repeat (first | apply kA | apply kN | apply kD));exact Kd.R_mono (Kd.R_far (p:=⟨gb127,2,none⟩) (Kd.R_far (p:=⟨gb127,1,none⟩) (Kd.R_far (p:=⟨gb127,0,none⟩) (Kd.R_types HO_135002.out BK127.out (by decide)) (fun _ hk => hk.2) (.int .i64 (wrap64 (2 + t128)))) (fun _ hk => hk.2) (.int .i64 (wrap64 (2 + t131)))) (fun _ hk => hk.2) (.slice (some ⟨go26,0,none⟩) x135002_1.length co26)) (fun _ hk => trivial),qq34,qq51,qq40⟩
    ·rw [if_neg c25] at H;exact absurd H (by simp)

end Go.Proofs.Ytimpjccgnkbgmaa.PFnSearch
