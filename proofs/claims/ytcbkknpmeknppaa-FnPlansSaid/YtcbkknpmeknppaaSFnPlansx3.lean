/- Contracts of functions that the law FnPlans reaches, for its row: lines that the kit's printer wrote for this claim, set shorter by a program of this session (own.py), and what fell in Lean proved anew. Lean checks them. -/
import Derived.Test.YtcbkknpmeknppaaSFnPlansx0
import Derived.Test.YtcbkknpmeknppaaSFnPlansx2
namespace Go.Proofs.Ytcbkknpmeknppaa.PFnPlans
open Go.RowKit Go.Proofs.YtcbkknpmeknppaaW.PrintWords Go.Proofs.YtcbkknpmeknppaaW.PrintLast Go.Proofs.YtcbkknpmeknppaaW.PrintMore
attribute [local go_sem] max2_int min2_int max_two min_two max_three min_three max_four min_four   -- for this text's walks alone
set_option linter.unusedVariables false
set_option linter.unusedSimpArgs false

/-! ### impl_NeedOf: function 19 -/
def impl_NeedOf.l0 : Nat → Int → List (S112) → Int → Int → Option (Int)
 | 0,_,_,_,_ => none
 | k + 1,x3,x9,x10,x11 => if x11 < x10 then (if 0 ≤ x11 then (if x11 < (x9.length : Int) then (impl_NeedOf.l0 k (wrap64 (x3 + ((rd_T112 x9 x11).f2))) x9 x10 (wrap64 (x11 + 1))) else (none)) else (none)) else (some x3)
def impl_NeedOf.f (k : Nat) (l0 : List (S112)) : Option (Int) := (impl_AreCrew.f k l0).bind fun t110 => (if t110 = true then (impl_NeedOf.l0 k 0 l0 (l0.length : Int) 0) else (some 0))
set_option maxHeartbeats 8000000 in
set_option maxRecDepth 100000 in
theorem impl_NeedOf.calls (k : Nat) (A0 : Option Addr) (c0 : Nat) (l0 : List (S112)) (r : Int) (w : World) (hr0 : Kd.C k112 w A0 l0.length l0) (hc0 : l0.length ≤ c0) (h : impl_NeedOf.f k l0 = some r) :
  Calls Try.prog 19 #[.slice A0 l0.length c0] w fun e w' => e = .returned (.int .i64 r) ∧ Below w.heap.size w w':=by
 have hu112:=Try.underlying112;have HR0:=am hr0;have HC0:=am hc0;clear hr0 hc0;have HB:=am (Below.refl w.heap.size w);have H : ((impl_AreCrew.f k l0).bind fun t110 => (if t110 = true then (impl_NeedOf.l0 k 0 l0 (l0.length : Int) 0) else (some 0))) = some r:=h;clear h;replace H:=bS.mp H;obtain ⟨t110,A20,H⟩:=H;replace H : (if t110 = true then (impl_NeedOf.l0 k 0 l0 (l0.length : Int) 0) else (some 0)) = some r:=H;have A2:=am A20;clear A20
 by_cases c3 : t110 = true
 ·subst c3;have H1 : (impl_NeedOf.l0 k 0 l0 (l0.length : Int) 0) = some r:=by rw [if_pos rfl] at H;exact H
  clear H;have H:=H1;clear H1;have H':=am H;clear H
  go_enter Try.func19,Try.ntmps19
  go_wp2_with (first | ((with_reducible refine gate_callee (f:=75) rfl ?_);refine goesL_ (some 7) rfl rfl Try.func75 (by kernel_rfl) rfl #[.slice A0 l0.length c0] rfl qq177 ?_;(with_reducible refine (impl_AreCrew.calls k _ _ l0 true _ ?side1 ?side2 A2.out).mono ?_);(case side1 => exact qq179);(case side2 => exact HC0.out);rintro e w4 ⟨rfl,hb⟩;refine ⟨_,rfl,?_⟩;replace HB:=am (below_step qq197 hb);(try clear hb);(try clear hb2);(try clear hk);(try clear hi)))
  go_loopg [3,11] k (fun kq v3 v11 w' => ∃ (x3_1 : Int) (x11_1 : Int),v3 = .int .i64 x3_1 ∧ v11 = .int .i64 x11_1 ∧ Aside0 (impl_NeedOf.l0 kq x3_1 l0 (l0.length : Int) x11_1 = some r) ∧ Aside0 (kq ≤ k) ∧ Aside0 (Below w.heap.size w w'))
  case atStart => exact ⟨(0),(0),qq295,qq295,H',⟨Nat.le_refl _⟩,⟨qq197⟩⟩
  case round =>
   clear H'
   try clear c1
   try clear p2
   try clear c3
   obtain ⟨x3_1,x11_1,rfl,rfl,HA,HK1,HB⟩:=hrel
   cases gk with
   | zero => exact absurd HA.out (by simp [impl_NeedOf.l0])
   | succ k1 =>
    have H:=HA.out;clear HA;simp only [impl_NeedOf.l0] at H
    by_cases c5 : x11_1 < (l0.length : Int)
    ·rw [if_pos c5] at H;have c5b0 : decide (x11_1 < (l0.length : Int)) = true:=decide_eq_true c5;clear c5
     by_cases c6 : 0 ≤ x11_1
     ·rw [if_pos c6] at H;have c6b0 : decide (0 ≤ x11_1) = true:=decide_eq_true c6;clear c6
      by_cases c7 : x11_1 < (l0.length : Int)
      ·rw [if_pos c7] at H;have c7b0 : decide (x11_1 < (l0.length : Int)) = true:=decide_eq_true c7;clear c7;have H':=am H;clear H;have p111 : 0 ≤ (x11_1 : Int):=odt qq293;have q111 : x11_1 < (l0.length : Int):=odt qq293;obtain ⟨ad111,e111,hx111_0,hx111_1,hx111_2,hx111_3⟩:=at_T112 HR0.out x11_1 p111 q111
       cases e111
       replace hx111_0:=(ct HB.out hx111_0 :)
       replace hx111_1:=(ct HB.out hx111_1 :)
       replace hx111_2:=(ct HB.out hx111_2 :)
       replace hx111_3:=(ct HB.out hx111_3 :)
       replace p111:=eq_true p111;replace q111:=eq_true q111;go_wp2_with (first | ((with_reducible refine gate_dst (N:=5) rfl ?_);refine box_event ?hg (N:=5) ?hd (cs:=#[.int .i64 0,.int .i64 0,.int .i64 0,.bool false]) (t:=112) ?hr ?_;(case hd => rfl);(case hg => rfl);(case hr => exact qq296);intro gb112 hg w8 hbox hb;have BK112:=am (hbox);have GW112:=am ((qq149 : w.heap.size ≤ gb112));have GE112:=am ((qq149 : w.heap.size ≤ gb112));replace HB:=am (below_step qq197 hb);clear hb hbox hg;obtain ⟨hcz9_0,hcz9_1,hcz9_2,hcz9_3,hfz9_0,hfz9_1,hfz9_2,hfz9_3⟩:=bcl4 BK112.out))
       go_roundg k1
       case measure => have:=HK1.out;omega
       case rel => exact ⟨(wrap64 (x3_1 + ((rd_T112 l0 x11_1).f2))),(wrap64 (x11_1 + 1)),qq295,qq295,H',⟨qq311⟩,⟨by repeat (first | (with_reducible first | exact HB.out | apply bA | apply bN | apply bD | refine below_set ?_ GE112.out) | exact HB.out)⟩⟩
      ·rw [if_neg c7] at H;exact absurd H (by simp)
     ·rw [if_neg c6] at H;exact absurd H (by simp)
    ·rw [if_neg c5] at H;have c5b0 : decide (x11_1 < (l0.length : Int)) = false:=decide_eq_false c5;clear c5;obtain rfl:=Option.some.inj H;go_wp2
     go_ret
     exact ⟨qq246,qq197⟩
 ·replace c3:=Bool.eq_false_iff.mpr c3;subst c3;have H1 : (some 0) = some r:=by rw [if_neg (show ¬ (false = true) by decide)] at H;exact H
  clear H;have H:=H1;clear H1;obtain rfl:=Option.some.inj H
  go_enter Try.func19,Try.ntmps19
  go_wp2_with (first | ((with_reducible refine gate_callee (f:=75) rfl ?_);refine goesL_ (some 7) rfl rfl Try.func75 (by kernel_rfl) rfl #[.slice A0 l0.length c0] rfl qq177 ?_;(with_reducible refine (impl_AreCrew.calls k _ _ l0 false _ ?side1 ?side2 A2.out).mono ?_);(case side1 => exact qq179);(case side2 => exact HC0.out);rintro e w10 ⟨rfl,hb⟩;refine ⟨_,rfl,?_⟩;replace HB:=am (below_step qq197 hb);(try clear hb);(try clear hb2);(try clear hk);(try clear hi)))
  go_ret
  exact ⟨qq246,qq197⟩

/-- A state of type 141 at block g of W; what its slices lead to came in by w0. -/
def IsS141 (w0 W : World) (g : Nat) (f0 : List Int) (f1 : Int) (f2 : Int) : Prop := ∃ A0 c0, W.heap[g]? = some (.cells #[.slice A0 f0.length c0, .int .i64 f1, .int .i64 f2] 141 (0, 0)) ∧ w0.heap.size ≤ g ∧ Kd.C (Kd.int .u8) w0 A0 f0.length f0
theorem IsS141.grown {w0 W : World} {g : Nat} {f0 : List Int} {f1 : Int} {f2 : Int} {W1 : World} {row : Option Nat} (h : IsS141 w0 W g f0 f1 f2) (hw : W.grownBy W1 row) (hne : some g ≠ row) : IsS141 w0 W1 g f0 f1 f2 := by
 obtain ⟨A0,c0,hb,hg,hr0⟩:=h
 exact ⟨A0,c0,blk_grown hb hw hne,hg,hr0⟩
theorem IsS141.below {w0 W : World} {g : Nat} {f0 : List Int} {f1 : Int} {f2 : Int} {W1 : World} (h : IsS141 w0 W g f0 f1 f2) (hw : Below W.heap.size W W1) : IsS141 w0 W1 g f0 f1 f2 := h.grown (grown_of_below hw none) (by simp)
theorem IsS141.alloc {w0 W : World} {g : Nat} {f0 : List Int} {f1 : Int} {f2 : Int} (h : IsS141 w0 W g f0 f1 f2) (o : Obj) : IsS141 w0 (W.alloc o) g f0 f1 f2 := h.below (below_alloc (Below.refl _ _) o)
theorem IsS141.drewN {w0 W : World} {g : Nat} {f0 : List Int} {f1 : Int} {f2 : Int} (h : IsS141 w0 W g f0 f1 f2) (m : Nat) : IsS141 w0 (W.drewN m) g f0 f1 f2 := h
theorem IsS141.drew {w0 W : World} {g : Nat} {f0 : List Int} {f1 : Int} {f2 : Int} (h : IsS141 w0 W g f0 f1 f2) : IsS141 w0 W.drew g f0 f1 f2 := h
theorem IsS141.apart {w0 W : World} {g : Nat} {f0 : List Int} {f1 : Int} {f2 : Int} {α : Type} {d : Kd α} {e : Nat} {base : Nat} {ok : Nat → Prop} {v : Value} {xs : List α} (h : IsS141 w0 W g f0 f1 f2) (ho : d.R e W base ok v xs) (ht : ∀ q, q ∈ e :: d.E → q ≠ 141) : d.R e W base (fun k => ok k ∧ k ≠ g) v xs := by
 obtain ⟨A0,c0,hb,hg,hr0⟩:=h
 exact Kd.R_types ho hb ht
theorem IsS141.own_ne {w0 W : World} {g : Nat} {f0 : List Int} {f1 : Int} {f2 : Int} {α : Type} {d : Kd α} {e : Nat} {base : Nat} {ok : Nat → Prop} {v : Value} {xs : List α} (h : IsS141 w0 W g f0 f1 f2) (ho : d.R e W base ok v xs) (ht : e ≠ 141) : some g ≠ v.ownBlock := by
 obtain ⟨A0,c0,hb,hg,hr0⟩:=h
 exact Kd.R_ne ho hb ht
theorem IsS141.apartQ {w0 W : World} {g : Nat} {f0 : List Int} {f1 : Int} {f2 : Int} {α : Type} {d : Kd α} {e : Nat} {base : Nat} {ok : Nat → Prop} {v : Value} {xs : List α} (h : IsS141 w0 W g f0 f1 f2) (ho : d.Q e W base ok v xs) (ht : ∀ q, q ∈ e :: d.E → q ≠ 141) : d.Q e W base (fun k => ok k ∧ k ≠ g) v xs := by
 obtain ⟨A0,c0,hb,hg,hr0⟩:=h
 exact Kd.Q_types ho hb ht
theorem IsS141.own_neQ {w0 W : World} {g : Nat} {f0 : List Int} {f1 : Int} {f2 : Int} {α : Type} {d : Kd α} {e : Nat} {base : Nat} {ok : Nat → Prop} {v : Value} {xs : List α} (h : IsS141 w0 W g f0 f1 f2) (ho : d.Q e W base ok v xs) (ht : e ≠ 141) : some g ≠ v.ownBlock := by
 obtain ⟨A0,c0,hb,hg,hr0⟩:=h
 exact Kd.Q_ne ho hb ht
theorem IsS141.lt {w0 W : World} {g : Nat} {f0 : List Int} {f1 : Int} {f2 : Int} (h : IsS141 w0 W g f0 f1 f2) : g < W.heap.size := by
 obtain ⟨A0,c0,hb,hg,hr0⟩:=h
 exact blk_lt hb
theorem IsS141.ge {w0 W : World} {g : Nat} {f0 : List Int} {f1 : Int} {f2 : Int} (h : IsS141 w0 W g f0 f1 f2) : w0.heap.size ≤ g := by
 obtain ⟨A0,c0,hb,hg,hr0⟩:=h
 exact hg
theorem IsS141.ne_blk {w0 W : World} {g : Nat} {f0 : List Int} {f1 : Int} {f2 : Int} {a : Nat} {cs : Array Value} {t : TypeId} {fr : Nat × Nat} (h : IsS141 w0 W g f0 f1 f2) (hb2 : W.heap[a]? = some (.cells cs t fr)) (ht : t ≠ 141) : g ≠ a := by
 obtain ⟨A0,c0,hb,hg,hr0⟩:=h
 rintro rfl
 rw [hb] at hb2
 injection hb2 with hb2
 injection hb2 with _ ht2
 exact ht ht2.symm
theorem IsS141.far {w0 W : World} {g : Nat} {f0 : List Int} {f1 : Int} {f2 : Int} {p : Addr} (h : IsS141 w0 W g f0 f1 f2) (hne : g ≠ p.block) (u : Value) : IsS141 w0 (W.setCell p u) g f0 f1 f2 := by
 obtain ⟨A0,c0,hb,hg,hr0⟩:=h
 exact ⟨A0,c0,blk_far hb hne u,hg,hr0⟩
theorem cellS141_0 {W : World} {g : Nat} {A0 : Option Addr} {c0 : Nat} {f0 : List Int} {f1 : Int} {f2 : Int} (h : W.heap[g]? = some (.cells #[.slice A0 f0.length c0, .int .i64 f1, .int .i64 f2] 141 (0, 0))) : W.cell? ⟨g, 0, none⟩ = some (.slice A0 f0.length c0) := (blk_cell h 0).trans rfl
theorem cellS141_1 {W : World} {g : Nat} {A0 : Option Addr} {c0 : Nat} {f0 : List Int} {f1 : Int} {f2 : Int} (h : W.heap[g]? = some (.cells #[.slice A0 f0.length c0, .int .i64 f1, .int .i64 f2] 141 (0, 0))) : W.cell? ⟨g, 1, none⟩ = some (.int .i64 f1) := (blk_cell h 1).trans rfl
theorem IsS141.set_1 {w0 W : World} {g : Nat} {f0 : List Int} {f1 : Int} {f2 : Int} (h : IsS141 w0 W g f0 f1 f2) (x : Int) : IsS141 w0 (W.setCell ⟨g, 1, none⟩ (.int .i64 x)) g f0 x f2 := by
 obtain ⟨A0,c0,hb,hg,hr0⟩:=h
 exact ⟨A0,c0,by simpa using blk_set hb 1 (.int .i64 x),hg,hr0⟩
theorem cellS141_2 {W : World} {g : Nat} {A0 : Option Addr} {c0 : Nat} {f0 : List Int} {f1 : Int} {f2 : Int} (h : W.heap[g]? = some (.cells #[.slice A0 f0.length c0, .int .i64 f1, .int .i64 f2] 141 (0, 0))) : W.cell? ⟨g, 2, none⟩ = some (.int .i64 f2) := (blk_cell h 2).trans rfl
theorem IsS141.set_2 {w0 W : World} {g : Nat} {f0 : List Int} {f1 : Int} {f2 : Int} (h : IsS141 w0 W g f0 f1 f2) (x : Int) : IsS141 w0 (W.setCell ⟨g, 2, none⟩ (.int .i64 x)) g f0 f1 x := by
 obtain ⟨A0,c0,hb,hg,hr0⟩:=h
 exact ⟨A0,c0,by simpa using blk_set hb 2 (.int .i64 x),hg,hr0⟩
/-! ### spec_l1New: function 73 -/
def spec_l1New.l0 : Nat → List Int → Int → Int → Option (List Int × Int × Int)
 | 0,_,_,_ => none
 | k + 1,x0,x3,x4 => if x4 < (x0.length : Int) then (if x4 < 4000 then (if 0 ≤ x4 then (spec_l1New.l0 k x0 (Go.bits .and .i64 (wrap64 ((wrap64 ((wrap64 (x3 * 137)) + (wrap64 (rd x0 x4)))) + 11)) 1073741823) (wrap64 (x4 + 1))) else (none)) else (some (x0,0,x3))) else (some (x0,0,x3))
def spec_l1New.f (k : Nat) (l0 : List Int) : Option (List Int × Int × Int) := spec_l1New.l0 k l0 (wrap64 (193017 + (l0.length : Int))) 0
set_option maxHeartbeats 8000000 in
set_option maxRecDepth 100000 in
theorem spec_l1New.calls (k : Nat) (A0 : Option Addr) (c0 : Nat) (l0 : List Int) (r1 : List Int) (r2 : Int) (r3 : Int) (w0 w : World) (hB : Below w0.heap.size w0 w) (hr0 : Kd.C (Kd.int .u8) w0 A0 l0.length l0) (hc0 : l0.length ≤ c0) (h : spec_l1New.f k l0 = some (r1, r2, r3)) :
  Calls Try.prog 73 #[.slice A0 l0.length c0] w fun e w' => ∃ g_ : Nat,e = .returned (.pointer (some ⟨g_,0,none⟩)) ∧ IsS141 w0 w' g_ r1 r2 r3 ∧ Below w0.heap.size w0 w' ∧ Below w.heap.size w w':=by
 have hu141:=Try.underlying141;have HR0:=am hr0;have HC0:=am hc0;clear hr0 hc0;have HBW:=am (Below.refl w.heap.size w);have HW0:=am hB.size;have HB:=am hB;clear hB;have H : (spec_l1New.l0 k l0 (wrap64 (193017 + (l0.length : Int))) 0) = some (r1,r2,r3):=h;clear h;have H':=am H;clear H
 go_enter Try.func73,Try.ntmps73
 go_wp2
 go_loopg [3,4] k (fun kq v3 v4 w' => ∃ (x3_1 : Int) (x4_1 : Int),v3 = .int .i64 x3_1 ∧ v4 = .int .i64 x4_1 ∧ Aside0 (spec_l1New.l0 kq l0 x3_1 x4_1 = some (r1,r2,r3)) ∧ Aside0 (kq ≤ k) ∧ Aside0 (Below w0.heap.size w0 w') ∧ Aside0 (Below w.heap.size w w'))
 case atStart => exact ⟨(wrap64 (193017 + (l0.length : Int))),(0),qq295,qq295,H',⟨Nat.le_refl _⟩,⟨qq197⟩,⟨qq192⟩⟩
 case round =>
  clear H';obtain ⟨x3_1,x4_1,rfl,rfl,HA,HK1,HB,HBW⟩:=hrel
  cases gk with
  | zero => exact absurd HA.out (by simp [spec_l1New.l0])
  | succ k1 =>
   have H:=HA.out;clear HA;simp only [spec_l1New.l0] at H
   by_cases c2 : x4_1 < (l0.length : Int)
   ·rw [if_pos c2] at H;have c2b0 : decide (x4_1 < (l0.length : Int)) = true:=decide_eq_true c2;clear c2
    by_cases c3 : x4_1 < 4000
    ·rw [if_pos c3] at H;have c3b0 : decide (x4_1 < 4000) = true:=decide_eq_true c3;clear c3
     by_cases c4 : 0 ≤ x4_1
     ·rw [if_pos c4] at H;have c4b0 : decide (0 ≤ x4_1) = true:=decide_eq_true c4;clear c4;have H':=am H;clear H;have p113 : 0 ≤ (x4_1 : Int):=odt qq293;have q113 : x4_1 < (l0.length : Int):=odt qq293;obtain ⟨ad113,e113,hx113_0⟩:=Kd.at_int HR0.out x4_1 p113 q113
      cases e113
      replace hx113_0:=pw_cell_below HB.out hx113_0;replace p113:=eq_true p113;replace q113:=eq_true q113;go_wp2
      go_roundg k1
      case measure => have:=HK1.out;omega
      case rel => exact ⟨(Go.bits .and .i64 (wrap64 ((wrap64 ((wrap64 (x3_1 * 137)) + (wrap64 (rd l0 x4_1)))) + 11)) 1073741823),(wrap64 (x4_1 + 1)),qq295,qq295,H',⟨qq311⟩,⟨qq197⟩,⟨qq192⟩⟩
     ·rw [if_neg c4] at H;exact absurd H (by simp)
    ·rw [if_neg c3] at H;have c3b0 : decide (x4_1 < 4000) = false:=decide_eq_false c3;clear c3;simp only [Option.some.injEq,Prod.mk.injEq] at H;obtain ⟨rfl,rfl,rfl⟩:=H;go_wp2_with (first | ((with_reducible refine gate_dst (N:=31) rfl ?_);refine box_event ?hg (N:=31) ?hd (cs:=#[.slice A0 l0.length c0,.int .i64 0,.int .i64 x3_1]) (t:=141) ?hr ?_;(case hd => rfl);(case hg => rfl);(case hr => exact qq296);intro gb114 hg w5 hbox hb;replace HB:=am (below_step qq197 hb);have BK114:=am (hbox);have GW114:=am ((qq148 : w.heap.size ≤ gb114));have GE114:=am ((Nat.le_trans HW0.out (qq148 : w.heap.size ≤ gb114) : w0.heap.size ≤ gb114));replace HBW:=am (below_step HBW.out hb);clear hb hbox hg))
     go_ret
     exact ⟨_,rfl,(show IsS141 w0 _ gb114 l0 0 x3_1 from ⟨_,_,by (with_reducible repeat (first | refine dN ?_ _ | refine dD ?_ | refine dA ?_ _));exact BK114.out,GE114.out,HR0.out⟩),by repeat (first | (with_reducible first | exact HB.out | apply bA | apply bN | apply bD | refine below_set ?_ GE114.out) | exact HB.out),by repeat (first | (with_reducible first | exact HBW.out | apply bA | apply bN | apply bD | refine below_set ?_ GW114.out) | exact HBW.out)⟩
   ·rw [if_neg c2] at H;have c2b0 : decide (x4_1 < (l0.length : Int)) = false:=decide_eq_false c2;clear c2;simp only [Option.some.injEq,Prod.mk.injEq] at H;obtain ⟨rfl,rfl,rfl⟩:=H;go_wp2_with (first | ((with_reducible refine gate_dst (N:=31) rfl ?_);refine box_event ?hg (N:=31) ?hd (cs:=#[.slice A0 l0.length c0,.int .i64 0,.int .i64 x3_1]) (t:=141) ?hr ?_;(case hd => rfl);(case hg => rfl);(case hr => exact qq296);intro gb115 hg w6 hbox hb;replace HB:=am (below_step qq197 hb);have BK115:=am (hbox);have GW115:=am ((qq148 : w.heap.size ≤ gb115));have GE115:=am ((Nat.le_trans HW0.out (qq148 : w.heap.size ≤ gb115) : w0.heap.size ≤ gb115));replace HBW:=am (below_step HBW.out hb);clear hb hbox hg))
    go_ret
    exact ⟨_,rfl,(show IsS141 w0 _ gb115 l0 0 x3_1 from ⟨_,_,by (with_reducible repeat (first | refine dN ?_ _ | refine dD ?_ | refine dA ?_ _));exact BK115.out,GE115.out,HR0.out⟩),by repeat (first | (with_reducible first | exact HB.out | apply bA | apply bN | apply bD | refine below_set ?_ GE115.out) | exact HB.out),by repeat (first | (with_reducible first | exact HBW.out | apply bA | apply bN | apply bD | refine below_set ?_ GW115.out) | exact HBW.out)⟩

/-! ### spec_l1Byte: function 121 -/
def spec_l1Byte.f (s0_0 : List Int) (s0_1 : Int) (s0_2 : Int) : Option (Int × Int × Int) := if s0_1 < (s0_0.length : Int) then (if 0 ≤ s0_1 then (some (Go.bits .and .i64 (wrap64 ((Go.bits .and .i64 (Go.bits .xor .i64 ((wrap64 ((wrap64 (s0_2 * 6364136223846793005)) + 1442695040888963407)) / 8589934592) ((wrap64 ((wrap64 (s0_2 * 6364136223846793005)) + 1442695040888963407)) / 140737488355328)) 255) + (wrap64 (rd s0_0 s0_1)))) 255, wrap64 (s0_1 + 1), wrap64 ((wrap64 (s0_2 * 6364136223846793005)) + 1442695040888963407))) else (none)) else (some (Go.bits .and .i64 (Go.bits .xor .i64 ((wrap64 ((wrap64 (s0_2 * 6364136223846793005)) + 1442695040888963407)) / 8589934592) ((wrap64 ((wrap64 (s0_2 * 6364136223846793005)) + 1442695040888963407)) / 140737488355328)) 255, s0_1, wrap64 ((wrap64 (s0_2 * 6364136223846793005)) + 1442695040888963407)))
set_option maxHeartbeats 8000000 in
set_option maxRecDepth 100000 in
theorem spec_l1Byte.calls (g : Nat) (s0_0 : List Int) (s0_1 : Int) (s0_2 : Int) (r1 : Int) (r2 : Int) (r3 : Int) (w0 w : World) (hI : IsS141 w0 w g s0_0 s0_1 s0_2) (hB : Below w0.heap.size w0 w) (h : spec_l1Byte.f s0_0 s0_1 s0_2 = some (r1, r2, r3)) :
  Calls Try.prog 121 #[.pointer (some ⟨g,0,none⟩)] w fun e w' => e = .returned (.int .i64 r1) ∧ IsS141 w0 w' g s0_0 r2 r3 ∧ Below w0.heap.size w0 w' ∧ KeepBut w w' g none:=by
 have HI0:=am hI;have HK:=am (KeepBut.refl w g none);have HL:=am hB.size;clear hI;have HW0:=am hB.size;have HB:=am hB;clear hB;have H : (if s0_1 < (s0_0.length : Int) then (if 0 ≤ s0_1 then (some (Go.bits .and .i64 (wrap64 ((Go.bits .and .i64 (Go.bits .xor .i64 ((wrap64 ((wrap64 (s0_2 * 6364136223846793005)) + 1442695040888963407)) / 8589934592) ((wrap64 ((wrap64 (s0_2 * 6364136223846793005)) + 1442695040888963407)) / 140737488355328)) 255) + (wrap64 (rd s0_0 s0_1)))) 255,wrap64 (s0_1 + 1),wrap64 ((wrap64 (s0_2 * 6364136223846793005)) + 1442695040888963407))) else (none)) else (some (Go.bits .and .i64 (Go.bits .xor .i64 ((wrap64 ((wrap64 (s0_2 * 6364136223846793005)) + 1442695040888963407)) / 8589934592) ((wrap64 ((wrap64 (s0_2 * 6364136223846793005)) + 1442695040888963407)) / 140737488355328)) 255,s0_1,wrap64 ((wrap64 (s0_2 * 6364136223846793005)) + 1442695040888963407)))) = some (r1,r2,r3):=h;clear h
 by_cases c2 : s0_1 < (s0_0.length : Int)
 ·rw [if_pos c2] at H;have c2b0 : decide (s0_1 < (s0_0.length : Int)) = true:=decide_eq_true c2;clear c2
  by_cases c3 : 0 ≤ s0_1
  ·rw [if_pos c3] at H;have c3b0 : decide (0 ≤ s0_1) = true:=decide_eq_true c3;clear c3;simp only [Option.some.injEq,Prod.mk.injEq] at H;obtain ⟨rfl,rfl,rfl⟩:=H;obtain ⟨ASz4_0,cSz4_0,HGz4,hgz4,HSz4_0⟩:=HI0.out;have hcz4_0:=cellS141_0 HGz4;have hcz4_1:=cellS141_1 HGz4;have hcz4_2:=cellS141_2 HGz4;have hfz4_1:=blk_frozen HGz4 1;have hfz4_2:=blk_frozen HGz4 2;clear HGz4 hgz4;have p116 : 0 ≤ (s0_1 : Int):=odt qq293;have q116 : s0_1 < (s0_0.length : Int):=odt qq293;obtain ⟨ad116,e116,hx116_0⟩:=Kd.at_int HSz4_0 s0_1 p116 q116
   cases e116
   have hn116_0 : ad116.block ≠ g:=Nat.ne_of_lt (Nat.lt_of_lt_of_le (by have:=bl _ _ hx116_0;first | rwa [add_block] at this | exact this) (IsS141.ge HI0.out));replace hx116_0:=pw_cell_below HB.out hx116_0;replace hx116_0:=(cell_far (p:=⟨g,2,none⟩) (by first | (rw [add_block];exact hn116_0) | (show (Addr.add _ _).block ≠ _;rw [add_block];exact hn116_0) | exact hn116_0) (.int .i64 (wrap64 ((wrap64 (s0_2 * 6364136223846793005)) + 1442695040888963407)))).trans hx116_0;(try have hy116_0:=fun (n_ : Nat) => (show (((w.drewN n_).setCell ⟨g,2,none⟩ (.int .i64 (wrap64 ((wrap64 (s0_2 * 6364136223846793005)) + 1442695040888963407))))).cell? _ = some _ from hx116_0));clear hn116_0;replace p116:=eq_true p116;replace q116:=eq_true q116
   go_enter Try.func121,Try.ntmps121
   go_wp2
   repeat (go_quiet (fail);try go_wp2)
   go_ret
   exact ⟨qq246,qq109,qq143,qq139⟩
  ·rw [if_neg c3] at H;exact absurd H (by simp)
 ·rw [if_neg c2] at H;have c2b0 : decide (s0_1 < (s0_0.length : Int)) = false:=decide_eq_false c2;clear c2;simp only [Option.some.injEq,Prod.mk.injEq] at H;obtain ⟨rfl,rfl,rfl⟩:=H;obtain ⟨ASz5_0,cSz5_0,HGz5,hgz5,HSz5_0⟩:=HI0.out;have hcz5_0:=cellS141_0 HGz5;have hcz5_1:=cellS141_1 HGz5;have hcz5_2:=cellS141_2 HGz5;have hfz5_1:=blk_frozen HGz5 1;have hfz5_2:=blk_frozen HGz5 2;clear HGz5 hgz5
  go_enter Try.func121,Try.ntmps121
  go_wp2
  repeat (go_quiet (fail);try go_wp2)
  go_ret
  exact ⟨qq246,qq109,qq143,qq139⟩

/-! ### spec_l1Below: function 78 -/
def spec_l1Below.f (s0_0 : List Int) (s0_1 : Int) (s0_2 : Int) (a1 : Int) : Option (Int × Int × Int) := if a1 ≤ 0 then (some (0, s0_1, s0_2)) else (if a1 ≤ 256 then ((spec_l1Byte.f s0_0 s0_1 s0_2).bind fun bt117 => (if a1 = 0 then (none) else (some (Int.tmod bt117.1 a1, bt117.2.1, bt117.2.2)))) else ((spec_l1Byte.f s0_0 s0_1 s0_2).bind fun bt120 => ((spec_l1Byte.f s0_0 bt120.2.1 bt120.2.2).bind fun bt123 => ((spec_l1Byte.f s0_0 bt123.2.1 bt123.2.2).bind fun bt126 => (if a1 = 0 then (none) else (some (Int.tmod (wrap64 ((wrap64 ((wrap64 (bt120.1 * 65536)) + (wrap64 (bt123.1 * 256)))) + bt126.1)) a1, bt126.2.1, bt126.2.2)))))))
set_option maxHeartbeats 8000000 in
set_option maxRecDepth 100000 in
theorem spec_l1Below.calls (g : Nat) (s0_0 : List Int) (s0_1 : Int) (s0_2 : Int) (a1 : Int) (r1 : Int) (r2 : Int) (r3 : Int) (w0 w : World) (hI : IsS141 w0 w g s0_0 s0_1 s0_2) (hB : Below w0.heap.size w0 w) (h : spec_l1Below.f s0_0 s0_1 s0_2 a1 = some (r1, r2, r3)) :
  Calls Try.prog 78 #[.pointer (some ⟨g,0,none⟩),.int .i64 a1] w fun e w' => e = .returned (.int .i64 r1) ∧ IsS141 w0 w' g s0_0 r2 r3 ∧ Below w0.heap.size w0 w' ∧ KeepBut w w' g none:=by
 have HI0:=am hI;have HK:=am (KeepBut.refl w g none);have HL:=am hB.size;clear hI;have HW0:=am hB.size;have HB:=am hB;clear hB;have H : (if a1 ≤ 0 then (some (0,s0_1,s0_2)) else (if a1 ≤ 256 then ((spec_l1Byte.f s0_0 s0_1 s0_2).bind fun bt117 => (if a1 = 0 then (none) else (some (Int.tmod bt117.1 a1,bt117.2.1,bt117.2.2)))) else ((spec_l1Byte.f s0_0 s0_1 s0_2).bind fun bt120 => ((spec_l1Byte.f s0_0 bt120.2.1 bt120.2.2).bind fun bt123 => ((spec_l1Byte.f s0_0 bt123.2.1 bt123.2.2).bind fun bt126 => (if a1 = 0 then (none) else (some (Int.tmod (wrap64 ((wrap64 ((wrap64 (bt120.1 * 65536)) + (wrap64 (bt123.1 * 256)))) + bt126.1)) a1,bt126.2.1,bt126.2.2)))))))) = some (r1,r2,r3):=h;clear h
 by_cases c3 : a1 ≤ 0
 ·rw [if_pos c3] at H;have c3b0 : decide (a1 ≤ 0) = true:=decide_eq_true c3;clear c3;simp only [Option.some.injEq,Prod.mk.injEq] at H;obtain ⟨rfl,rfl,rfl⟩:=H
  go_enter Try.func78,Try.ntmps78
  go_wp2
  go_ret
  exact ⟨qq246,qq109,qq143,qq139⟩
 ·rw [if_neg c3] at H;have c3b0 : decide (a1 ≤ 0) = false:=decide_eq_false c3;clear c3
  by_cases c4 : a1 ≤ 256
  ·rw [if_pos c4] at H;have c4b0 : decide (a1 ≤ 256) = true:=decide_eq_true c4;clear c4;replace H:=bS.mp H;obtain ⟨⟨t117,t118,t119⟩,A50,H⟩:=H;replace H : (if a1 = 0 then (none) else (some (Int.tmod t117 a1,t118,t119))) = some (r1,r2,r3):=H;have A5:=am A50;clear A50
   by_cases c6 : a1 = 0
   ·rw [if_pos c6] at H;exact absurd H (by simp)
   ·rw [if_neg c6] at H;have c6b0 : (a1 == 0) = false:=beq_eq_false_iff_ne.mpr c6;have c6b1 : (a1 != 0) = true:=bne_iff_ne.mpr c6;simp only [Option.some.injEq,Prod.mk.injEq] at H;obtain ⟨rfl,rfl,rfl⟩:=H
    go_enter Try.func78,Try.ntmps78
    go_wp2_with (first | ((with_reducible refine gate_callee (f:=121) rfl ?_);refine goesL_ (some 13) rfl rfl Try.func121 (by kernel_rfl) rfl #[.pointer (some ⟨g,0,none⟩)] rfl qq177 ?_;(with_reducible refine (spec_l1Byte.calls g s0_0 s0_1 s0_2 t117 t118 t119 w0 _ ?side1 ?side2 A5.out).mono ?_);(case side1 => exact qq109);(case side2 => exact qq143);rintro e w7 ⟨rfl,hi,hb,hk⟩;refine ⟨_,rfl,?_⟩;replace HK:=am (KeepBut.trans qq139 hk (.inl rfl));replace HB:=am (hb);replace HI0:=am (hi);(try clear hb);(try clear hb2);(try clear hk);(try clear hi)))
    go_ret
    exact ⟨qq246,qq109,qq143,qq139⟩
  ·rw [if_neg c4] at H;have c4b0 : decide (a1 ≤ 256) = false:=decide_eq_false c4;clear c4;replace H:=bS.mp H;obtain ⟨⟨t120,t121,t122⟩,A80,H⟩:=H;replace H : ((spec_l1Byte.f s0_0 t121 t122).bind fun bt123 => ((spec_l1Byte.f s0_0 bt123.2.1 bt123.2.2).bind fun bt126 => (if a1 = 0 then (none) else (some (Int.tmod (wrap64 ((wrap64 ((wrap64 (t120 * 65536)) + (wrap64 (bt123.1 * 256)))) + bt126.1)) a1,bt126.2.1,bt126.2.2))))) = some (r1,r2,r3):=H;have A8:=am A80;clear A80;replace H:=bS.mp H;obtain ⟨⟨t123,t124,t125⟩,A90,H⟩:=H;replace H : ((spec_l1Byte.f s0_0 t124 t125).bind fun bt126 => (if a1 = 0 then (none) else (some (Int.tmod (wrap64 ((wrap64 ((wrap64 (t120 * 65536)) + (wrap64 (t123 * 256)))) + bt126.1)) a1,bt126.2.1,bt126.2.2)))) = some (r1,r2,r3):=H;have A9:=am A90;clear A90;replace H:=bS.mp H;obtain ⟨⟨t126,t127,t128⟩,A100,H⟩:=H;replace H : (if a1 = 0 then (none) else (some (Int.tmod (wrap64 ((wrap64 ((wrap64 (t120 * 65536)) + (wrap64 (t123 * 256)))) + t126)) a1,t127,t128))) = some (r1,r2,r3):=H;have A10:=am A100;clear A100
   by_cases c11 : a1 = 0
   ·rw [if_pos c11] at H;exact absurd H (by simp)
   ·rw [if_neg c11] at H;have c11b0 : (a1 == 0) = false:=beq_eq_false_iff_ne.mpr c11;have c11b1 : (a1 != 0) = true:=bne_iff_ne.mpr c11;simp only [Option.some.injEq,Prod.mk.injEq] at H;obtain ⟨rfl,rfl,rfl⟩:=H
    go_enter Try.func78,Try.ntmps78
    go_wp2_with (first | ((with_reducible refine gate_callee (f:=121) rfl ?_);refine goesL_ (some 17) rfl rfl Try.func121 (by kernel_rfl) rfl #[.pointer (some ⟨g,0,none⟩)] rfl qq177 ?_;(with_reducible refine (spec_l1Byte.calls g s0_0 s0_1 s0_2 t120 t121 t122 w0 _ ?side1 ?side2 A8.out).mono ?_);(case side1 => exact qq109);(case side2 => exact qq143);rintro e w12 ⟨rfl,hi,hb,hk⟩;refine ⟨_,rfl,?_⟩;replace HK:=am (KeepBut.trans qq139 hk (.inl rfl));replace HB:=am (hb);replace HI0:=am (hi);(try clear hb);(try clear hb2);(try clear hk);(try clear hi)) | ((with_reducible refine gate_callee (f:=121) rfl ?_);refine goesL_ (some 19) rfl rfl Try.func121 (by kernel_rfl) rfl #[.pointer (some ⟨g,0,none⟩)] rfl qq177 ?_;(with_reducible refine (spec_l1Byte.calls g s0_0 t121 t122 t123 t124 t125 w0 _ ?side1 ?side2 A9.out).mono ?_);(case side1 => exact qq109);(case side2 => exact qq143);rintro e w13 ⟨rfl,hi,hb,hk⟩;refine ⟨_,rfl,?_⟩;replace HK:=am (KeepBut.trans qq139 hk (.inl rfl));replace HB:=am (hb);replace HI0:=am (hi);(try clear hb);(try clear hb2);(try clear hk);(try clear hi)) | ((with_reducible refine gate_callee (f:=121) rfl ?_);refine goesL_ (some 21) rfl rfl Try.func121 (by kernel_rfl) rfl #[.pointer (some ⟨g,0,none⟩)] rfl qq177 ?_;(with_reducible refine (spec_l1Byte.calls g s0_0 t124 t125 t126 t127 t128 w0 _ ?side1 ?side2 A10.out).mono ?_);(case side1 => exact qq109);(case side2 => exact qq143);rintro e w14 ⟨rfl,hi,hb,hk⟩;refine ⟨_,rfl,?_⟩;replace HK:=am (KeepBut.trans qq139 hk (.inl rfl));replace HB:=am (hb);replace HI0:=am (hi);(try clear hb);(try clear hb2);(try clear hk);(try clear hi)))
    go_ret
    exact ⟨qq246,qq109,qq143,qq139⟩

/-! ### spec_l1Int: function 74 -/
def spec_l1Int.f (s0_0 : List Int) (s0_1 : Int) (s0_2 : Int) (l1 : List Int) : Option (Int × Int × Int) := (spec_l1Below.f s0_0 s0_1 s0_2 (l1.length : Int)).bind fun bt129 => (if 0 ≤ bt129.1 then (if bt129.1 < (l1.length : Int) then (some (rd l1 bt129.1, bt129.2.1, bt129.2.2)) else (none)) else (none))
set_option maxHeartbeats 8000000 in
set_option maxRecDepth 100000 in
theorem spec_l1Int.calls (g : Nat) (s0_0 : List Int) (s0_1 : Int) (s0_2 : Int) (A1 : Option Addr) (c1 : Nat) (l1 : List Int) (r1 : Int) (r2 : Int) (r3 : Int) (w0 w : World) (hI : IsS141 w0 w g s0_0 s0_1 s0_2) (hB : Below w0.heap.size w0 w) (hr1 : Kd.C (Kd.int .i64) w A1 l1.length l1) (hc1 : l1.length ≤ c1) (hf1 : ∀ ad, A1 = some ad → 0 < l1.length → ad.block ≠ g) (h : spec_l1Int.f s0_0 s0_1 s0_2 l1 = some (r1, r2, r3)) :
  Calls Try.prog 74 #[.pointer (some ⟨g,0,none⟩),.slice A1 l1.length c1] w fun e w' => e = .returned (.int .i64 r1) ∧ IsS141 w0 w' g s0_0 r2 r3 ∧ Below w0.heap.size w0 w' ∧ KeepBut w w' g none:=by
 have HR1:=am hr1;have HC1:=am hc1;clear hr1 hc1;have HI0:=am hI;have HK:=am (KeepBut.refl w g none);have HL:=am hB.size;clear hI;have HW0:=am hB.size;have HB:=am hB;clear hB;have H : ((spec_l1Below.f s0_0 s0_1 s0_2 (l1.length : Int)).bind fun bt129 => (if 0 ≤ bt129.1 then (if bt129.1 < (l1.length : Int) then (some (rd l1 bt129.1,bt129.2.1,bt129.2.2)) else (none)) else (none))) = some (r1,r2,r3):=h;clear h;replace H:=bS.mp H;obtain ⟨⟨t129,t130,t131⟩,A30,H⟩:=H;replace H : (if 0 ≤ t129 then (if t129 < (l1.length : Int) then (some (rd l1 t129,t130,t131)) else (none)) else (none)) = some (r1,r2,r3):=H;have A3:=am A30;clear A30
 by_cases c4 : 0 ≤ t129
 ·rw [if_pos c4] at H;have c4b0 : decide (0 ≤ t129) = true:=decide_eq_true c4;clear c4
  by_cases c5 : t129 < (l1.length : Int)
  ·rw [if_pos c5] at H;have c5b0 : decide (t129 < (l1.length : Int)) = true:=decide_eq_true c5;clear c5;simp only [Option.some.injEq,Prod.mk.injEq] at H;obtain ⟨rfl,rfl,rfl⟩:=H
   go_enter Try.func74,Try.ntmps74
   go_wp2_with (first | ((with_reducible refine gate_callee (f:=78) rfl ?_);refine goesL_ (some 9) rfl rfl Try.func78 (by kernel_rfl) rfl #[.pointer (some ⟨g,0,none⟩),.int .i64 (l1.length : Int)] rfl qq177 ?_;(with_reducible refine (spec_l1Below.calls g s0_0 s0_1 s0_2 (l1.length : Int) t129 t130 t131 w0 _ ?side1 ?side2 A3.out).mono ?_);(case side1 => exact qq109);(case side2 => exact qq143);rintro e w6 ⟨rfl,hi,hb,hk⟩;refine ⟨_,rfl,?_⟩;replace HK:=am (KeepBut.trans qq139 hk (.inl rfl));replace HB:=am (hb);replace HI0:=am (hi);(try clear hb);(try clear hb2);(try clear hk);(try clear hi);have p132 : 0 ≤ (t129 : Int):=odt qq293;have q132 : t129 < (l1.length : Int):=odt qq293;obtain ⟨ad132,e132,hx132_0⟩:=Kd.at_int HR1.out t129 p132 q132;cases e132;replace hx132_0:=keep_cell HK.out hx132_0 (by first | (rw [add_block];exact hf1 _ rfl (by omega)) | exact hf1 _ rfl (by omega) | exact hf1 ad132 rfl (by omega));replace p132:=eq_true p132;replace q132:=eq_true q132))
   go_ret
   exact ⟨qq246,qq109,qq143,qq139⟩
  ·rw [if_neg c5] at H;exact absurd H (by simp)
 ·rw [if_neg c4] at H;exact absurd H (by simp)

/-! ### spec_l1In: function 104 -/
def spec_l1In.f (a0 : Int) (a1 : Int) (a2 : Int) : Option (Bool) := if a0 ≥ a1 then (some (decide (a0 ≤ a2))) else (some false)
set_option maxHeartbeats 8000000 in
set_option maxRecDepth 100000 in
theorem spec_l1In.calls (a0 : Int) (a1 : Int) (a2 : Int) (r : Bool) (w : World) (h : spec_l1In.f a0 a1 a2 = some r) :
  Calls Try.prog 104 #[.int .i64 a0,.int .i64 a1,.int .i64 a2] w fun e w' => e = .returned (.bool r) ∧ Drawn0 w w':=by
 have H : (if a0 ≥ a1 then (some (decide (a0 ≤ a2))) else (some false)) = some r:=h;clear h
 by_cases c4 : a0 ≥ a1
 ·rw [if_pos c4] at H;have c4b0 : decide (a1 ≤ a0) = true:=decide_eq_true c4;clear c4;obtain rfl:=Option.some.inj H
  go_enter Try.func104,Try.ntmps104
  go_wp2
  go_ret
  exact ⟨qq295,qq291⟩
 ·rw [if_neg c4] at H;have c4b0 : decide (a1 ≤ a0) = false:=decide_eq_false c4;clear c4;obtain rfl:=Option.some.inj H
  go_enter Try.func104,Try.ntmps104
  go_wp2
  go_ret
  exact ⟨qq295,qq291⟩

/-! ### spec_IsLand: function 147 -/
mutual
def spec_IsLand.j0 : Nat → Bool → Int → Int → List Int → Option (Bool)
 | 0,_,_,_,_ => none
 | k + 1,x24,x134000,x134001,x134002 => if x24 = true then (some false) else (spec_IsLand.l0 k 0 x134000 x134001 x134002)
def spec_IsLand.l0 : Nat → Int → Int → Int → List Int → Option (Bool)
 | 0,_,_,_,_ => none
 | k + 1,x3,x134000,x134001,x134002 => if x3 < (x134002.length : Int) then (if 0 ≤ x3 then ((spec_l1In.f (rd x134002 x3) 0 2).bind fun t137 => (if t137 = true then (spec_IsLand.l0 k (wrap64 (x3 + 1)) x134000 x134001 x134002) else (some false))) else (none)) else (some true)
end
def spec_IsLand.f (k : Nat) (a0_0 : Int) (a0_1 : Int) (l0_2 : List Int) : Option (Bool) := (spec_l1In.f a0_0 1 8).bind fun t134 => (if t134 = true then ((spec_l1In.f a0_1 1 8).bind fun t135 => (if t135 = true then (spec_IsLand.j0 k ((l0_2.length : Int) != (wrap64 (a0_0 * a0_1))) a0_0 a0_1 l0_2) else (spec_IsLand.j0 k true a0_0 a0_1 l0_2))) else (spec_IsLand.j0 k true a0_0 a0_1 l0_2))
set_option maxHeartbeats 8000000 in
set_option maxRecDepth 100000 in
theorem spec_IsLand.calls (k : Nat) (a0_0 : Int) (a0_1 : Int) (A0_2 : Option Addr) (c0_2 : Nat) (l0_2 : List Int) (r : Bool) (w : World) (hr0_2 : Kd.C (Kd.int .i64) w A0_2 l0_2.length l0_2) (hc0_2 : l0_2.length ≤ c0_2) (h : spec_IsLand.f k a0_0 a0_1 l0_2 = some r) :
  Calls Try.prog 147 #[.agg #[.int .i64 a0_0,.int .i64 a0_1,.slice A0_2 l0_2.length c0_2]] w fun e w' => e = .returned (.bool r) ∧ Below w.heap.size w w':=by
 have hu51:=Try.underlying51;have HR0_2:=am hr0_2;have HC0_2:=am hc0_2;clear hr0_2 hc0_2;have HB:=am (Below.refl w.heap.size w);have H : ((spec_l1In.f a0_0 1 8).bind fun t134 => (if t134 = true then ((spec_l1In.f a0_1 1 8).bind fun t135 => (if t135 = true then (spec_IsLand.j0 k ((l0_2.length : Int) != (wrap64 (a0_0 * a0_1))) a0_0 a0_1 l0_2) else (spec_IsLand.j0 k true a0_0 a0_1 l0_2))) else (spec_IsLand.j0 k true a0_0 a0_1 l0_2))) = some r:=h;clear h;have HC2:=am H;clear H
 go_enter Try.func147,Try.ntmps147
 go_upto_region 1 with (first | ((with_reducible refine gate_dst (N:=1) rfl ?_);(try (refine gate_guard (by rfl) ?_;dsimp only));refine box_event ?hg (N:=1) ?hd (cs:=#[.int .i64 a0_0,.int .i64 a0_1,.slice A0_2 l0_2.length c0_2]) (t:=51) ?hr ?_;(case hd => rfl);(case hg => rfl);(case hr => exact qq296);intro gb133 hg w3 hbox hb;have BK133:=am (hbox);have GW133:=am ((qq149 : w.heap.size ≤ gb133));have GE133:=am ((qq149 : w.heap.size ≤ gb133));replace HB:=am (below_step qq197 hb);clear hb hbox hg))
 (try simp only [Act.put,sA,s0,s1])
 go_cut [24] (fun v24 wc => ∃ (kq : Nat) (x24_1 : Bool),v24 = .bool x24_1 ∧ Aside0 (spec_IsLand.j0 kq x24_1 a0_0 a0_1 l0_2 = some r) ∧ Aside0 (kq ≤ k) ∧ Aside0 (wc.heap[gb133]? = some (.cells #[.int .i64 a0_0,.int .i64 a0_1,(.slice A0_2 l0_2.length c0_2)] 51 (0,0))) ∧ Aside0 (Below w.heap.size w wc))
 case first =>
  have H:=HC2.out;clear HC2;replace H:=bS.mp H;obtain ⟨t134,A40,H⟩:=H;replace H : (if t134 = true then ((spec_l1In.f a0_1 1 8).bind fun t135 => (if t135 = true then (spec_IsLand.j0 k ((l0_2.length : Int) != (wrap64 (a0_0 * a0_1))) a0_0 a0_1 l0_2) else (spec_IsLand.j0 k true a0_0 a0_1 l0_2))) else (spec_IsLand.j0 k true a0_0 a0_1 l0_2)) = some r:=H;have A4:=am A40;clear A40
  by_cases c5 : t134 = true
  ·subst c5;have H1 : ((spec_l1In.f a0_1 1 8).bind fun t135 => (if t135 = true then (spec_IsLand.j0 k ((l0_2.length : Int) != (wrap64 (a0_0 * a0_1))) a0_0 a0_1 l0_2) else (spec_IsLand.j0 k true a0_0 a0_1 l0_2))) = some r:=by rw [if_pos rfl] at H;exact H
   clear H;have H:=H1;clear H1;replace H:=bS.mp H;obtain ⟨t135,A60,H⟩:=H;replace H : (if t135 = true then (spec_IsLand.j0 k ((l0_2.length : Int) != (wrap64 (a0_0 * a0_1))) a0_0 a0_1 l0_2) else (spec_IsLand.j0 k true a0_0 a0_1 l0_2)) = some r:=H;have A6:=am A60;clear A60
   by_cases c7 : t135 = true
   ·subst c7;have H1 : (spec_IsLand.j0 k ((l0_2.length : Int) != (wrap64 (a0_0 * a0_1))) a0_0 a0_1 l0_2) = some r:=by rw [if_pos rfl] at H;exact H
    clear H;have H:=H1;clear H1;have H':=am H;clear H;obtain ⟨hcz8_0,hcz8_1,hcz8_2,hfz8_0,hfz8_1,hfz8_2⟩:=bcl3 BK133.out;go_wp2_with (first | ((with_reducible refine gate_callee (f:=104) rfl ?_);refine goesL_ (some 6) rfl rfl Try.func104 (by kernel_rfl) rfl #[.int .i64 a0_0,.int .i64 1,.int .i64 8] rfl qq177 ?_;(with_reducible refine (spec_l1In.calls a0_0 1 8 true _ A4.out).mono ?_);rintro e w' ⟨rfl,⟨nd,rfl⟩⟩;refine ⟨_,rfl,?_⟩) | (go_at_call 104;(with_reducible refine (spec_l1In.calls a0_1 1 8 true _ A6.out).mono ?_);rintro e w' ⟨rfl,⟨nd,rfl⟩⟩))
    go_meet
    case rel => exact ⟨_,(((l0_2.length : Int) != (wrap64 (a0_0 * a0_1)))),qq295,H',⟨qq298⟩,⟨qq243⟩,⟨qq175⟩⟩
   ·replace c7:=Bool.eq_false_iff.mpr c7;subst c7;have H1 : (spec_IsLand.j0 k true a0_0 a0_1 l0_2) = some r:=by rw [if_neg (show ¬ (false = true) by decide)] at H;exact H
    clear H;have H:=H1;clear H1;have H':=am H;clear H;obtain ⟨hcz9_0,hcz9_1,hcz9_2,hfz9_0,hfz9_1,hfz9_2⟩:=bcl3 BK133.out;go_wp2_with (first | ((with_reducible refine gate_callee (f:=104) rfl ?_);refine goesL_ (some 6) rfl rfl Try.func104 (by kernel_rfl) rfl #[.int .i64 a0_0,.int .i64 1,.int .i64 8] rfl qq177 ?_;(with_reducible refine (spec_l1In.calls a0_0 1 8 true _ A4.out).mono ?_);rintro e w' ⟨rfl,⟨nd,rfl⟩⟩;refine ⟨_,rfl,?_⟩) | (go_at_call 104;(with_reducible refine (spec_l1In.calls a0_1 1 8 false _ A6.out).mono ?_);rintro e w' ⟨rfl,⟨nd,rfl⟩⟩))
    go_meet
    case rel => exact ⟨_,(true),qq295,H',⟨qq298⟩,⟨qq243⟩,⟨qq175⟩⟩
  ·replace c5:=Bool.eq_false_iff.mpr c5;subst c5;have H1 : (spec_IsLand.j0 k true a0_0 a0_1 l0_2) = some r:=by rw [if_neg (show ¬ (false = true) by decide)] at H;exact H
   clear H;have H:=H1;clear H1;have H':=am H;clear H;obtain ⟨hcz10_0,hcz10_1,hcz10_2,hfz10_0,hfz10_1,hfz10_2⟩:=bcl3 BK133.out;go_wp2_with (first | ((with_reducible refine gate_callee (f:=104) rfl ?_);refine goesL_ (some 6) rfl rfl Try.func104 (by kernel_rfl) rfl #[.int .i64 a0_0,.int .i64 1,.int .i64 8] rfl qq177 ?_;(with_reducible refine (spec_l1In.calls a0_0 1 8 false _ A4.out).mono ?_);rintro e w' ⟨rfl,⟨nd,rfl⟩⟩;refine ⟨_,rfl,?_⟩))
   go_meet
   case rel => exact ⟨_,(true),qq295,H',⟨qq298⟩,⟨qq243⟩,⟨qq175⟩⟩
 case rest =>
  clear HC2
  try clear c1
  try clear p2
  try clear c5
  try clear p6
  try clear c7
  try clear c10
  try clear hcz10_0
  try clear hcz10_1
  try clear hcz10_2
  try clear hcz8_0
  try clear hcz8_1
  try clear hcz8_2
  try clear hcz9_0
  try clear hcz9_1
  try clear hcz9_2
  try clear hfz10_0
  try clear hfz10_1
  try clear hfz10_2
  try clear hfz8_0
  try clear hfz8_1
  try clear hfz8_2
  try clear hfz9_0
  try clear hfz9_1
  try clear hfz9_2
  obtain ⟨kq,x24_1,rfl,HA,HJ1,BK133,HB⟩:=hcut
  cases kq with
  | zero => exact absurd HA.out (by simp [spec_IsLand.j0])
  | succ kj1 =>
   have H:=HA.out;clear HA;simp only [spec_IsLand.j0] at H
   by_cases c11 : x24_1 = true
   ·subst c11;have H1 : (some false) = some r:=by rw [if_pos rfl] at H;exact H
    clear H;have H:=H1;clear H1;obtain rfl:=Option.some.inj H;go_wp2
    go_ret
    exact ⟨qq246,qq175⟩
   ·replace c11:=Bool.eq_false_iff.mpr c11;subst c11;have H1 : (spec_IsLand.l0 kj1 0 a0_0 a0_1 l0_2) = some r:=by rw [if_neg (show ¬ (false = true) by decide)] at H;exact H
    clear H;have H:=H1;clear H1;have H':=am H;clear H;go_wp2
    go_loopg [3] kj1 (fun kq v3 w' => ∃ (x3_2 : Int),v3 = .int .i64 x3_2 ∧ Aside0 (spec_IsLand.l0 kq x3_2 a0_0 a0_1 l0_2 = some r) ∧ Aside0 (kq ≤ kj1) ∧ Aside0 (w'.heap[gb133]? = some (.cells #[.int .i64 a0_0,.int .i64 a0_1,(.slice A0_2 l0_2.length c0_2)] 51 (0,0))) ∧ Aside0 (Below w.heap.size w w'))
    case atStart => exact ⟨(0),qq295,H',⟨Nat.le_refl _⟩,⟨qq243⟩,⟨qq175⟩⟩
    case round =>
     clear H'
     try clear c1
     try clear p2
     try clear c5
     try clear p6
     try clear c7
     try clear c10
     try clear c11
     try clear hcz10_0
     try clear hcz10_1
     try clear hcz10_2
     try clear hcz8_0
     try clear hcz8_1
     try clear hcz8_2
     try clear hcz9_0
     try clear hcz9_1
     try clear hcz9_2
     try clear hfz10_0
     try clear hfz10_1
     try clear hfz10_2
     try clear hfz8_0
     try clear hfz8_1
     try clear hfz8_2
     try clear hfz9_0
     try clear hfz9_1
     try clear hfz9_2
     try clear p2
     try clear p6
     obtain ⟨x3_2,rfl,HA,HK2,BK133,HB⟩:=hrel
     cases gk with
     | zero => exact absurd HA.out (by simp [spec_IsLand.l0])
     | succ k2 =>
      have H:=HA.out;clear HA;simp only [spec_IsLand.l0] at H
      by_cases c12 : x3_2 < (l0_2.length : Int)
      ·rw [if_pos c12] at H;have c12b0 : decide (x3_2 < (l0_2.length : Int)) = true:=decide_eq_true c12;clear c12
       by_cases c13 : 0 ≤ x3_2
       ·rw [if_pos c13] at H;have c13b0 : decide (0 ≤ x3_2) = true:=decide_eq_true c13;clear c13;replace H:=bS.mp H;obtain ⟨t137,A140,H⟩:=H;replace H : (if t137 = true then (spec_IsLand.l0 k2 (wrap64 (x3_2 + 1)) a0_0 a0_1 l0_2) else (some false)) = some r:=H;have A14:=am A140;clear A140
        by_cases c15 : t137 = true
        ·subst c15;have H1 : (spec_IsLand.l0 k2 (wrap64 (x3_2 + 1)) a0_0 a0_1 l0_2) = some r:=by rw [if_pos rfl] at H;exact H
         clear H;have H:=H1;clear H1;have H':=am H;clear H;obtain ⟨hcz16_0,hcz16_1,hcz16_2,hfz16_0,hfz16_1,hfz16_2⟩:=bcl3 BK133.out;have p136 : 0 ≤ (x3_2 : Int):=odt qq293;have q136 : x3_2 < (l0_2.length : Int):=odt qq293;obtain ⟨ad136,e136,hx136_0⟩:=Kd.at_int HR0_2.out x3_2 p136 q136
         cases e136
         replace hx136_0:=(ct HB.out hx136_0 :)
         replace p136:=eq_true p136;replace q136:=eq_true q136;go_wp2_with (first | ((with_reducible refine gate_callee (f:=104) rfl ?_);refine goesL_ (some 37) rfl rfl Try.func104 (by kernel_rfl) rfl #[.int .i64 (rd l0_2 x3_2),.int .i64 0,.int .i64 2] rfl qq177 ?_;(with_reducible refine (spec_l1In.calls (rd l0_2 x3_2) 0 2 true _ A14.out).mono ?_);rintro e w' ⟨rfl,⟨nd,rfl⟩⟩;refine ⟨_,rfl,?_⟩))
         go_roundg k2
         case measure => have:=HJ1.out;have:=HK2.out;omega
         case rel => exact ⟨(wrap64 (x3_2 + 1)),qq295,H',⟨by have:=HJ1.out;have:=HK2.out;omega⟩,⟨qq243⟩,⟨qq175⟩⟩
        ·replace c15:=Bool.eq_false_iff.mpr c15;subst c15;have H1 : (some false) = some r:=by rw [if_neg (show ¬ (false = true) by decide)] at H;exact H
         clear H;have H:=H1;clear H1;obtain rfl:=Option.some.inj H;obtain ⟨hcz17_0,hcz17_1,hcz17_2,hfz17_0,hfz17_1,hfz17_2⟩:=bcl3 BK133.out;have p136 : 0 ≤ (x3_2 : Int):=odt qq293;have q136 : x3_2 < (l0_2.length : Int):=odt qq293;obtain ⟨ad136,e136,hx136_0⟩:=Kd.at_int HR0_2.out x3_2 p136 q136
         cases e136
         replace hx136_0:=(ct HB.out hx136_0 :)
         replace p136:=eq_true p136;replace q136:=eq_true q136;go_wp2_with (first | ((with_reducible refine gate_callee (f:=104) rfl ?_);refine goesL_ (some 37) rfl rfl Try.func104 (by kernel_rfl) rfl #[.int .i64 (rd l0_2 x3_2),.int .i64 0,.int .i64 2] rfl qq177 ?_;(with_reducible refine (spec_l1In.calls (rd l0_2 x3_2) 0 2 false _ A14.out).mono ?_);rintro e w' ⟨rfl,⟨nd,rfl⟩⟩;refine ⟨_,rfl,?_⟩))
         go_ret
         exact ⟨qq246,qq175⟩
       ·rw [if_neg c13] at H;exact absurd H (by simp)
      ·rw [if_neg c12] at H;have c12b0 : decide (x3_2 < (l0_2.length : Int)) = false:=decide_eq_false c12;clear c12;obtain rfl:=Option.some.inj H;obtain ⟨hcz18_0,hcz18_1,hcz18_2,hfz18_0,hfz18_1,hfz18_2⟩:=bcl3 BK133.out;go_wp2
       go_ret
       exact ⟨qq246,qq175⟩

/-! ### spec_IsCell: function 137 -/
def spec_IsCell.f (k : Nat) (a0_0 : Int) (a0_1 : Int) (l0_2 : List Int) (a1 : Int) : Option (Bool) := (spec_IsLand.f k a0_0 a0_1 l0_2).bind fun t139 => (if t139 = true then ((spec_l1In.f a1 0 (wrap64 ((l0_2.length : Int) - 1))).bind fun t140 => (some t140)) else (some false))
set_option maxHeartbeats 8000000 in
set_option maxRecDepth 100000 in
theorem spec_IsCell.calls (k : Nat) (a0_0 : Int) (a0_1 : Int) (A0_2 : Option Addr) (c0_2 : Nat) (l0_2 : List Int) (a1 : Int) (r : Bool) (w : World) (hr0_2 : Kd.C (Kd.int .i64) w A0_2 l0_2.length l0_2) (hc0_2 : l0_2.length ≤ c0_2) (h : spec_IsCell.f k a0_0 a0_1 l0_2 a1 = some r) :
  Calls Try.prog 137 #[.agg #[.int .i64 a0_0,.int .i64 a0_1,.slice A0_2 l0_2.length c0_2],.int .i64 a1] w fun e w' => e = .returned (.bool r) ∧ Below w.heap.size w w':=by
 have hu51:=Try.underlying51;have HR0_2:=am hr0_2;have HC0_2:=am hc0_2;clear hr0_2 hc0_2;have HB:=am (Below.refl w.heap.size w);have H : ((spec_IsLand.f k a0_0 a0_1 l0_2).bind fun t139 => (if t139 = true then ((spec_l1In.f a1 0 (wrap64 ((l0_2.length : Int) - 1))).bind fun t140 => (some t140)) else (some false))) = some r:=h;clear h;replace H:=bS.mp H;obtain ⟨t139,A30,H⟩:=H;replace H : (if t139 = true then ((spec_l1In.f a1 0 (wrap64 ((l0_2.length : Int) - 1))).bind fun t140 => (some t140)) else (some false)) = some r:=H;have A3:=am A30;clear A30
 by_cases c4 : t139 = true
 ·subst c4;have H1 : ((spec_l1In.f a1 0 (wrap64 ((l0_2.length : Int) - 1))).bind fun t140 => (some t140)) = some r:=by rw [if_pos rfl] at H;exact H
  clear H;have H:=H1;clear H1;replace H:=bS.mp H;obtain ⟨t140,A50,H⟩:=H;replace H : (some t140) = some r:=H;have A5:=am A50;clear A50;obtain rfl:=Option.some.inj H
  go_enter Try.func137,Try.ntmps137
  go_wp2_with (first | ((with_reducible refine gate_dst (N:=2) rfl ?_);(try (refine gate_guard (by rfl) ?_;dsimp only));refine box_event ?hg (N:=2) ?hd (cs:=#[.int .i64 a0_0,.int .i64 a0_1,.slice A0_2 l0_2.length c0_2]) (t:=51) ?hr ?_;(case hd => rfl);(case hg => rfl);(case hr => exact qq296);intro gb138 hg w6 hbox hb;have BK138:=am (hbox);have GW138:=am ((qq149 : w.heap.size ≤ gb138));have GE138:=am ((qq149 : w.heap.size ≤ gb138));replace HB:=am (below_step qq197 hb);clear hb hbox hg;obtain ⟨hcz7_0,hcz7_1,hcz7_2,hfz7_0,hfz7_1,hfz7_2⟩:=bcl3 BK138.out) | ((with_reducible refine gate_callee (f:=147) rfl ?_);refine goesL_ (some 6) rfl rfl Try.func147 (by kernel_rfl) rfl #[.agg #[.int .i64 a0_0,.int .i64 a0_1,.slice A0_2 l0_2.length c0_2]] rfl qq177 ?_;(with_reducible refine (spec_IsLand.calls k a0_0 a0_1 _ _ l0_2 true _ ?side1 ?side2 A3.out).mono ?_);(case side1 => exact qq131);(case side2 => exact qq312);rintro e w8 ⟨rfl,hb⟩;refine ⟨_,rfl,?_⟩;replace BK138:=am (blk_below (g:=gb138) (o:=.cells #[.int .i64 a0_0,.int .i64 a0_1,.slice A0_2 l0_2.length c0_2] 51 (0,0)) qq242 hb);replace HB:=am (below_step qq174 hb);(try clear hb);(try clear hb2);(try clear hk);(try clear hi);obtain ⟨hcz9_0,hcz9_1,hcz9_2,hfz9_0,hfz9_1,hfz9_2⟩:=bcl3 BK138.out) | (go_at_call 104;(with_reducible refine (spec_l1In.calls a1 0 (wrap64 ((l0_2.length : Int) - 1)) t140 _ A5.out).mono ?_);rintro e w' ⟨rfl,⟨nd,rfl⟩⟩))
  go_ret
  exact ⟨qq246,qq174⟩
 ·replace c4:=Bool.eq_false_iff.mpr c4;subst c4;have H1 : (some false) = some r:=by rw [if_neg (show ¬ (false = true) by decide)] at H;exact H
  clear H;have H:=H1;clear H1;obtain rfl:=Option.some.inj H
  go_enter Try.func137,Try.ntmps137
  go_wp2_with (first | ((with_reducible refine gate_dst (N:=2) rfl ?_);(try (refine gate_guard (by rfl) ?_;dsimp only));refine box_event ?hg (N:=2) ?hd (cs:=#[.int .i64 a0_0,.int .i64 a0_1,.slice A0_2 l0_2.length c0_2]) (t:=51) ?hr ?_;(case hd => rfl);(case hg => rfl);(case hr => exact qq296);intro gb138 hg w10 hbox hb;have BK138:=am (hbox);have GW138:=am ((qq149 : w.heap.size ≤ gb138));have GE138:=am ((qq149 : w.heap.size ≤ gb138));replace HB:=am (below_step qq197 hb);clear hb hbox hg;obtain ⟨hcz11_0,hcz11_1,hcz11_2,hfz11_0,hfz11_1,hfz11_2⟩:=bcl3 BK138.out) | ((with_reducible refine gate_callee (f:=147) rfl ?_);refine goesL_ (some 6) rfl rfl Try.func147 (by kernel_rfl) rfl #[.agg #[.int .i64 a0_0,.int .i64 a0_1,.slice A0_2 l0_2.length c0_2]] rfl qq177 ?_;(with_reducible refine (spec_IsLand.calls k a0_0 a0_1 _ _ l0_2 false _ ?side1 ?side2 A3.out).mono ?_);(case side1 => exact qq131);(case side2 => exact qq312);rintro e w12 ⟨rfl,hb⟩;refine ⟨_,rfl,?_⟩;replace BK138:=am (blk_below (g:=gb138) (o:=.cells #[.int .i64 a0_0,.int .i64 a0_1,.slice A0_2 l0_2.length c0_2] 51 (0,0)) qq242 hb);replace HB:=am (below_step qq174 hb);(try clear hb);(try clear hb2);(try clear hk);(try clear hi)))
  go_ret
  exact ⟨qq246,qq174⟩

end Go.Proofs.Ytcbkknpmeknppaa.PFnPlans
