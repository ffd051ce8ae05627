/- Contracts of functions that the law FnWeathers reaches, for its row: lines that the kit's printer wrote for this claim, set shorter by a program of this session (own.py), and what fell in Lean proved anew. Lean checks them. -/
import Derived.Test.YtcbkknpmeknppaaProg
import Derived.Below
import Derived.Deep.Draws
import Derived.Deep.AppendLies
import Derived.Maps.AppendAt
import Derived.OwnWalk
import Derived.Laws.BytesArg
import Derived.Laws.MakeOwn
import Derived.Laws.OwnMore
import Derived.Deep.OwnRows
import Derived.Tactics
import Derived.Lib.ConvBytes
import Derived.Laws.Slices
import Derived.WalkKit
import Derived.KernelRfl
import Derived.RowKit3
import Derived.Deep.LoopGhost
import Derived.Deep.QuietTactic
import Derived.BigQuiet
import Derived.WideLaws
import Derived.Deep.DeepCutAuto
import Derived.Deep.CutBlock
import Derived.Deep.RegionHeld3
import Derived.Laws.Rows
import Derived.Lib.AppendStr
import Derived.ArgAppend
import Derived.Laws.IdiomCopy
import Derived.OrdersHeld
import Derived.Laws.BitsLemmas
import Derived.RowKit
import Derived.Test.YtcbkknpmeknppaaWWords
import Derived.Test.YtcbkknpmeknppaaWLast
import Derived.Test.YtcbkknpmeknppaaWTab
import Derived.Test.YtcbkknpmeknppaaWFour
import Derived.Test.YtcbkknpmeknppaaWQPut
import Derived.Test.YtcbkknpmeknppaaWApart
import Derived.Test.YtcbkknpmeknppaaWArr
import Derived.Test.YtcbkknpmeknppaaWZeros
import Derived.Test.YtcbkknpmeknppaaWFoot
import Derived.Test.YtcbkknpmeknppaaWKept
import Derived.Test.YtcbkknpmeknppaaWShare
import Derived.Test.YtcbkknpmeknppaaWN
import Derived.Test.YtcbkknpmeknppaaWFootNe
import Derived.Test.YtcbkknpmeknppaaWAt
import Derived.Test.YtcbkknpmeknppaaWEqStruct
import Derived.Test.YtcbkknpmeknppaaWRepsOne
import Derived.Test.YtcbkknpmeknppaaWInv
import Derived.Test.YtcbkknpmeknppaaWInvWords
import Derived.Test.YtcbkknpmeknppaaWGuard
import Derived.Test.YtcbkknpmeknppaaWNEv
import Derived.Test.YtcbkknpmeknppaaWMore
namespace Go.Proofs.Ytcbkknpmeknppaa.PFnWeathers
open Go.RowKit Go.Proofs.YtcbkknpmeknppaaW.PrintWords Go.Proofs.YtcbkknpmeknppaaW.PrintLast Go.Proofs.YtcbkknpmeknppaaW.PrintMore
attribute [local go_sem] max2_int min2_int max_two min_two max_three min_three max_four min_four   -- for this text's walks alone
set_option linter.unusedVariables false
set_option linter.unusedSimpArgs false



theorem ct {w w' : World} {a : Addr} {v : Value} (h : Below w.heap.size w w') (e : w.cell? a = some v) : w'.cell? a = some v := (h.cell (World.block_lt_of_cell? w _ e)).trans e
theorem sA {α : Type} (l : List α) (i : Nat) (a : α) : l.toArray.setIfInBounds i a = (l.set i a).toArray := List.setIfInBounds_toArray ..
theorem s0 {α : Type} {x a : α} {xs : List α} : (x :: xs).set 0 a = a :: xs := rfl
theorem s1 {α : Type} {n : Nat} {x a : α} {xs : List α} : (x :: xs).set (n + 1) a = x :: xs.set n a := rfl
abbrev am {P : Prop} (h : P) : Aside0 P := ⟨h⟩
abbrev bl := @World.block_lt_of_cell?
abbrev bA := @below_alloc
abbrev bN := @pw_below_drewN
abbrev bD := @below_drew1
abbrev kA := @Kd.R_alloc
abbrev kN := @Kd.R_drewN
abbrev kD := @Kd.R_drew
abbrev cA := @Kd.C_alloc
abbrev cN := @Kd.C_drewN
abbrev cD := @Kd.C_drew
abbrev dN := @blk_drewN
abbrev dD := @blk_drew
abbrev dA := @blk_alloc
abbrev bS := @Option.bind_eq_some_iff
abbrev odt := @of_decide_eq_true
theorem bcl2 {w : World} {g : Nat} {t : TypeId} {x0 x1 : Value} (h : w.heap[g]? = some (.cells #[x0, x1] t (0, 0))) : w.cell? ⟨g, 0, none⟩ = some x0 ∧ w.cell? ⟨g, 1, none⟩ = some x1 ∧ w.frozen? ⟨g, 0, none⟩ = false ∧ w.frozen? ⟨g, 1, none⟩ = false := ⟨(blk_cell h 0).trans rfl, (blk_cell h 1).trans rfl, blk_frozen h 0, blk_frozen h 1⟩
theorem bcl3 {w : World} {g : Nat} {t : TypeId} {x0 x1 x2 : Value} (h : w.heap[g]? = some (.cells #[x0, x1, x2] t (0, 0))) : w.cell? ⟨g, 0, none⟩ = some x0 ∧ w.cell? ⟨g, 1, none⟩ = some x1 ∧ w.cell? ⟨g, 2, none⟩ = some x2 ∧ w.frozen? ⟨g, 0, none⟩ = false ∧ w.frozen? ⟨g, 1, none⟩ = false ∧ w.frozen? ⟨g, 2, none⟩ = false := ⟨(blk_cell h 0).trans rfl, (blk_cell h 1).trans rfl, (blk_cell h 2).trans rfl, blk_frozen h 0, blk_frozen h 1, blk_frozen h 2⟩
theorem bcl4 {w : World} {g : Nat} {t : TypeId} {x0 x1 x2 x3 : Value} (h : w.heap[g]? = some (.cells #[x0, x1, x2, x3] t (0, 0))) : w.cell? ⟨g, 0, none⟩ = some x0 ∧ w.cell? ⟨g, 1, none⟩ = some x1 ∧ w.cell? ⟨g, 2, none⟩ = some x2 ∧ w.cell? ⟨g, 3, none⟩ = some x3 ∧ w.frozen? ⟨g, 0, none⟩ = false ∧ w.frozen? ⟨g, 1, none⟩ = false ∧ w.frozen? ⟨g, 2, none⟩ = false ∧ w.frozen? ⟨g, 3, none⟩ = false := ⟨(blk_cell h 0).trans rfl, (blk_cell h 1).trans rfl, (blk_cell h 2).trans rfl, (blk_cell h 3).trans rfl, blk_frozen h 0, blk_frozen h 1, blk_frozen h 2, blk_frozen h 3⟩
theorem pV {P : Program} {ops : Array Oper} {Q : Exit → Act → World → Prop} {md : Region.Mode} {S : World → Prop} {ds : List Nat} {i : Nat} {N : Option Tmp} {oi : Oper} {v : Value} {fuel : Nat} {l : Array Bool} {a : Act} {w : World} {a' : Act} (l' : Array Bool) (hi : ops[i]? = some oi) (hN : oi.dst = N) (hc : anyB md ops l l' i = true) (h : wpAnyLast P md ops Q S ds fuel l' a' w) (hQ : ∀ c a w, Q (.panic c) (a.put oi.dst v) w → Q (.panic c) a w := by exact fun _ _ _ h => h) (hw : Region.wanted oi (yielded ops a.tmps) = true := by rfl) (hv : ∀ w', (execOp a.eval oi).run P w' = .ok (.value v) w' := by intro w'; go_simp; (with_reducible rfl)) (ha : a.put N v = a' := by simp only [Act.put, sA, s0, s1, i64_w, i32_w]; rfl) : wpAnyLast P md ops Q S ds (fuel + 1) l a w := pure_ l' hi hN hc hQ (Or.inl ⟨hw, hv⟩) ha h
theorem pW {P : Program} {ops : Array Oper} {Q : Exit → Act → World → Prop} {md : Region.Mode} {S : World → Prop} {ds : List Nat} {i : Nat} {N : Option Tmp} {oi : Oper} {fuel : Nat} {l : Array Bool} {a : Act} {w : World} {a' : Act} (l' : Array Bool) (hi : ops[i]? = some oi) (hN : oi.dst = N) (hc : anyB md ops l l' i = true) (h : wpAnyLast P md ops Q S ds fuel l' a' w) (hQ : ∀ c a w, Q (.panic c) (a.put oi.dst undef) w → Q (.panic c) a w := by exact fun _ _ _ h => h) (hw : Region.wanted oi (yielded ops a.tmps) = false := by rfl) (ha : a.put N undef = a' := by simp only [Act.put, sA, s0, s1, i64_w, i32_w]; rfl) : wpAnyLast P md ops Q S ds (fuel + 1) l a w := pure_ l' hi hN hc hQ (Or.inr ⟨hw, rfl⟩) ha h
theorem tV2 {P : Program} {ops : Array Oper} {Q : Exit → Act → World → Prop} {md : Region.Mode} {S : World → Prop} {ds : List Nat} {i : Nat} {N : Option Tmp} {oi : Oper} {v : Value} {fuel : Nat} {l : Array Bool} {a : Act} {w : World} {a' : Act} (l' : Array Bool) (hi : ops[i]? = some oi) (hN : oi.dst = N) (hc : takeB md ops ds l l' i = true) (hS : S w) (h : wpAnyLast P md ops Q S ds fuel l' a' w) (hQ : ∀ c a w, Q (.panic c) (a.put oi.dst v) w → Q (.panic c) a w := by exact fun _ _ _ h => h) (hw : Region.wanted oi (yielded ops a.tmps) = true := by rfl) (hv : ∀ w', S w' → (execOp a.eval oi).run P w' = .ok (.value v) w' := by rintro w' ⟨s0, s1⟩; go_simp; with_reducible rfl) (ha : a.put N v = a' := by simp only [Act.put, sA, s0, s1, i64_w, i32_w]; rfl) : wpAnyLast P md ops Q S ds (fuel + 1) l a w := take_ l' hi hN hc hQ (Or.inl ⟨hw, hv⟩) hS ha h
theorem tV3 {P : Program} {ops : Array Oper} {Q : Exit → Act → World → Prop} {md : Region.Mode} {S : World → Prop} {ds : List Nat} {i : Nat} {N : Option Tmp} {oi : Oper} {v : Value} {fuel : Nat} {l : Array Bool} {a : Act} {w : World} {a' : Act} (l' : Array Bool) (hi : ops[i]? = some oi) (hN : oi.dst = N) (hc : takeB md ops ds l l' i = true) (hS : S w) (h : wpAnyLast P md ops Q S ds fuel l' a' w) (hQ : ∀ c a w, Q (.panic c) (a.put oi.dst v) w → Q (.panic c) a w := by exact fun _ _ _ h => h) (hw : Region.wanted oi (yielded ops a.tmps) = true := by rfl) (hv : ∀ w', S w' → (execOp a.eval oi).run P w' = .ok (.value v) w' := by rintro w' ⟨s0, s1, s2⟩; go_simp; with_reducible rfl) (ha : a.put N v = a' := by simp only [Act.put, sA, s0, s1, i64_w, i32_w]; rfl) : wpAnyLast P md ops Q S ds (fuel + 1) l a w := take_ l' hi hN hc hQ (Or.inl ⟨hw, hv⟩) hS ha h
theorem tV4 {P : Program} {ops : Array Oper} {Q : Exit → Act → World → Prop} {md : Region.Mode} {S : World → Prop} {ds : List Nat} {i : Nat} {N : Option Tmp} {oi : Oper} {v : Value} {fuel : Nat} {l : Array Bool} {a : Act} {w : World} {a' : Act} (l' : Array Bool) (hi : ops[i]? = some oi) (hN : oi.dst = N) (hc : takeB md ops ds l l' i = true) (hS : S w) (h : wpAnyLast P md ops Q S ds fuel l' a' w) (hQ : ∀ c a w, Q (.panic c) (a.put oi.dst v) w → Q (.panic c) a w := by exact fun _ _ _ h => h) (hw : Region.wanted oi (yielded ops a.tmps) = true := by rfl) (hv : ∀ w', S w' → (execOp a.eval oi).run P w' = .ok (.value v) w' := by rintro w' ⟨s0, s1, s2, s3⟩; go_simp; with_reducible rfl) (ha : a.put N v = a' := by simp only [Act.put, sA, s0, s1, i64_w, i32_w]; rfl) : wpAnyLast P md ops Q S ds (fuel + 1) l a w := take_ l' hi hN hc hQ (Or.inl ⟨hw, hv⟩) hS ha h
theorem tV7 {P : Program} {ops : Array Oper} {Q : Exit → Act → World → Prop} {md : Region.Mode} {S : World → Prop} {ds : List Nat} {i : Nat} {N : Option Tmp} {oi : Oper} {v : Value} {fuel : Nat} {l : Array Bool} {a : Act} {w : World} {a' : Act} (l' : Array Bool) (hi : ops[i]? = some oi) (hN : oi.dst = N) (hc : takeB md ops ds l l' i = true) (hS : S w) (h : wpAnyLast P md ops Q S ds fuel l' a' w) (hQ : ∀ c a w, Q (.panic c) (a.put oi.dst v) w → Q (.panic c) a w := by exact fun _ _ _ h => h) (hw : Region.wanted oi (yielded ops a.tmps) = true := by rfl) (hv : ∀ w', S w' → (execOp a.eval oi).run P w' = .ok (.value v) w' := by rintro w' ⟨s0, s1, s2, s3, s4, s5, s6⟩; go_simp; with_reducible rfl) (ha : a.put N v = a' := by simp only [Act.put, sA, s0, s1, i64_w, i32_w]; rfl) : wpAnyLast P md ops Q S ds (fuel + 1) l a w := take_ l' hi hN hc hQ (Or.inl ⟨hw, hv⟩) hS ha h
theorem tV8 {P : Program} {ops : Array Oper} {Q : Exit → Act → World → Prop} {md : Region.Mode} {S : World → Prop} {ds : List Nat} {i : Nat} {N : Option Tmp} {oi : Oper} {v : Value} {fuel : Nat} {l : Array Bool} {a : Act} {w : World} {a' : Act} (l' : Array Bool) (hi : ops[i]? = some oi) (hN : oi.dst = N) (hc : takeB md ops ds l l' i = true) (hS : S w) (h : wpAnyLast P md ops Q S ds fuel l' a' w) (hQ : ∀ c a w, Q (.panic c) (a.put oi.dst v) w → Q (.panic c) a w := by exact fun _ _ _ h => h) (hw : Region.wanted oi (yielded ops a.tmps) = true := by rfl) (hv : ∀ w', S w' → (execOp a.eval oi).run P w' = .ok (.value v) w' := by rintro w' ⟨s0, s1, s2, s3, s4, s5, s6, s7⟩; go_simp; with_reducible rfl) (ha : a.put N v = a' := by simp only [Act.put, sA, s0, s1, i64_w, i32_w]; rfl) : wpAnyLast P md ops Q S ds (fuel + 1) l a w := take_ l' hi hN hc hQ (Or.inl ⟨hw, hv⟩) hS ha h
theorem qT {P : Prop} (h : P := by exact any_of HT_.out (by kernel_rfl)) : P := h
abbrev Y : Bool := true
abbrev Z : Bool := false
def errW : Option Int → Value
 | none => .nilIface
 | some c => .iface 0 (.int .i64 c)
theorem errW_none : errW none = .nilIface := rfl
theorem errW_some (c : Int) : errW (some c) = .iface 0 (.int .i64 c) := rfl

theorem info3 : (Try.prog.info? 3).map (fun i => (i.zero, i.size, i.bytes)) = some (some (.int .i64 0), 1, 8) := by kernel_rfl
theorem info4 : (Try.prog.info? 4).map (fun i => (i.zero, i.size, i.bytes)) = some (some (.bool false), 1, 1) := by kernel_rfl
theorem info25 : (Try.prog.info? 25).map (fun i => (i.zero, i.size, i.bytes)) = some (some (.slice none 0 0), 1, 24) := by kernel_rfl
theorem info112 : (Try.prog.info? 112).map (fun i => (i.zero, i.size, i.bytes)) = some (some (.agg #[(.int .i64 0), (.int .i64 0), (.int .i64 0), (.bool false)]), 4, 32) := by kernel_rfl
-- the values' own types
/-! #### struct type 112 -/
structure S112 where
 f0 : Int
 f1 : Int
 f2 : Int
 f3 : Bool
def z112 : S112 := ⟨(0 : Int), (0 : Int), (0 : Int), false⟩
def k112 : Kd S112 := Kd.iso (Kd.pair (Kd.int .i64) (Kd.pair (Kd.int .i64) (Kd.pair (Kd.int .i64) Kd.bool))) (fun x : S112 => (x.f0, x.f1, x.f2, x.f3))
theorem k112_open {w : World} {x : S112} {cs : List Value} (h : k112.K w x cs) : cs = [.int .i64 x.f0, .int .i64 x.f1, .int .i64 x.f2, .bool x.f3] := by
 obtain ⟨_,_,rfl,rfl,⟨_,_,rfl,rfl,⟨_,_,rfl,rfl,rfl⟩⟩⟩:=h
 exact rfl
theorem k112_openM {w : World} {base : Nat} {ok : Nat → Prop} {x : S112} {cs : List Value} (h : k112.M w base ok x cs) : cs = [.int .i64 x.f0, .int .i64 x.f1, .int .i64 x.f2, .bool x.f3] := by
 obtain ⟨_,_,rfl,rfl,⟨_,_,rfl,rfl,⟨_,_,rfl,rfl,rfl⟩⟩⟩:=h
 exact rfl
theorem k112_mkM (w : World) (base : Nat) (ok : Nat → Prop) (x : S112)  : k112.M w base ok x [.int .i64 x.f0, .int .i64 x.f1, .int .i64 x.f2, .bool x.f3] := ⟨[.int .i64 x.f0], [.int .i64 x.f1, .int .i64 x.f2, .bool x.f3], rfl, rfl, ⟨[.int .i64 x.f1], [.int .i64 x.f2, .bool x.f3], rfl, rfl, ⟨[.int .i64 x.f2], [.bool x.f3], rfl, rfl, rfl⟩⟩⟩
def rd_T112 (xs : List S112) (i : Int) : S112 := xs.getD i.toNat z112
theorem at_T112 {w : World} {A : Option Addr} {n : Nat} {xs : List S112} (h : Kd.C k112 w A n xs) (i : Int) (h0 : 0 ≤ i) (h1 : i < n) : ∃ ad , A = some ad ∧ w.cell? (ad.add (i.toNat * 4)) = some (.int .i64 (rd_T112 xs i).f0) ∧ w.cell? ⟨(ad.add (i.toNat * 4)).block, (ad.add (i.toNat * 4)).off + 1, none⟩ = some (.int .i64 (rd_T112 xs i).f1) ∧ w.cell? ⟨(ad.add (i.toNat * 4)).block, (ad.add (i.toNat * 4)).off + 2, none⟩ = some (.int .i64 (rd_T112 xs i).f2) ∧ w.cell? ⟨(ad.add (i.toNat * 4)).block, (ad.add (i.toNat * 4)).off + 3, none⟩ = some (.bool (rd_T112 xs i).f3) := by
 obtain ⟨ad,c,e,_,hK,hc0⟩:=Kd.C_get h z112 i h0 h1
 have hc : ∀ j u,c[j]? = some u → w.cell? (ad.add (i.toNat * 4 + j)) = some u:=hc0
 obtain rfl:=k112_open hK
 exact ⟨ad,e,hc 0 _ rfl,by rw [← add_field _ _ 1 (by omega)];exact hc 1 _ rfl,by rw [← add_field _ _ 2 (by omega)];exact hc 2 _ rfl,by rw [← add_field _ _ 3 (by omega)];exact hc 3 _ rfl⟩

def rd_L4 (xs : List (List Bool)) (i : Int) : (List Bool) := xs.getD i.toNat ([] : List Bool)
theorem at_L4 {w : World} {A : Option Addr} {n : Nat} {xs : List (List Bool)} (h : Kd.C (Kd.slice 4 Kd.bool) w A n xs) (i : Int) (h0 : 0 ≤ i) (h1 : i < n) : ∃ ad A0 c0, A = some ad ∧ w.cell? (ad.add i.toNat) = some (.slice A0 (rd_L4 xs i).length c0) ∧ (rd_L4 xs i).length ≤ c0 ∧ Kd.bool.C w A0 (rd_L4 xs i).length (rd_L4 xs i) := by
 obtain ⟨ad,c,e,_,hK,hc0⟩:=Kd.C_get h ([] : List Bool) i h0 h1
 have hc : ∀ j u,c[j]? = some u → w.cell? (ad.add (i.toNat * 1 + j)) = some u:=hc0
 obtain ⟨A0,c0,rfl,l0,g0⟩:=hK
 exact ⟨ad,A0,c0,e,by have hq:=hc 0 _ rfl;rwa [Nat.mul_one,Nat.add_zero] at hq,l0,g0⟩

theorem qq1 {P : Prop} (h : P := by (with_reducible repeat (first | refine dN ?_ _ | refine dD ?_ | refine dA ?_ _));refine blk_put (cs:=#[.int .i64 ((rd_T112 l0 x7_1).f0),.int .i64 ((rd_T112 l0 x7_1).f1),.int .i64 ((rd_T112 l0 x7_1).f2),.bool false]) ?_ 3 _ rfl;(with_reducible repeat (first | refine dN ?_ _ | refine dD ?_ | refine dA ?_ _));refine blk_put (cs:=#[.int .i64 ((rd_T112 l0 x7_1).f0),.int .i64 ((rd_T112 l0 x7_1).f1),.int .i64 0,.bool false]) ?_ 2 _ rfl;(with_reducible repeat (first | refine dN ?_ _ | refine dD ?_ | refine dA ?_ _));refine blk_put (cs:=#[.int .i64 ((rd_T112 l0 x7_1).f0),.int .i64 0,.int .i64 0,.bool false]) ?_ 1 _ rfl;(with_reducible repeat (first | refine dN ?_ _ | refine dD ?_ | refine dA ?_ _));refine blk_put (cs:=#[.int .i64 0,.int .i64 0,.int .i64 0,.bool false]) ?_ 0 _ rfl;(with_reducible repeat (first | refine dN ?_ _ | refine dD ?_ | refine dA ?_ _));exact BK103.out) : P := h
theorem qq2 {P : Prop} (h : P := by (with_reducible repeat (first | refine dN ?_ _ | refine dD ?_ | refine dA ?_ _));refine blk_put (cs:=#[.int .i64 t674,.int .i64 t675,.slice Ao10 t676.length co10,.slice none 0 0]) ?_ 3 _ rfl;(with_reducible repeat (first | refine dN ?_ _ | refine dD ?_ | refine dA ?_ _));refine blk_put (cs:=#[.int .i64 t674,.int .i64 t675,.slice none 0 0,.slice none 0 0]) ?_ 2 _ rfl;(with_reducible repeat (first | refine dN ?_ _ | refine dD ?_ | refine dA ?_ _));refine blk_put (cs:=#[.int .i64 t674,.int .i64 0,.slice none 0 0,.slice none 0 0]) ?_ 1 _ rfl;(with_reducible repeat (first | refine dN ?_ _ | refine dD ?_ | refine dA ?_ _));refine blk_put (cs:=#[.int .i64 0,.int .i64 0,.slice none 0 0,.slice none 0 0]) ?_ 0 _ rfl;(with_reducible repeat (first | refine dN ?_ _ | refine dD ?_ | refine dA ?_ _));exact BK682.out) : P := h
theorem qq3 {P : Prop} (h : P := by (with_reducible repeat (first | refine dN ?_ _ | refine dD ?_ | refine dA ?_ _));refine blk_far ?_ NB673_682.out _;(with_reducible repeat (first | refine dN ?_ _ | refine dD ?_ | refine dA ?_ _));refine blk_far ?_ NB673_682.out _;(with_reducible repeat (first | refine dN ?_ _ | refine dD ?_ | refine dA ?_ _));refine blk_far ?_ NB673_682.out _;(with_reducible repeat (first | refine dN ?_ _ | refine dD ?_ | refine dA ?_ _));refine blk_far ?_ NB673_682.out _;(with_reducible repeat (first | refine dN ?_ _ | refine dD ?_ | refine dA ?_ _));exact BK673.out) : P := h
theorem qq4 {P : Prop} (h : P := by (with_reducible repeat (first | apply kA | apply kN | apply kD));exact (Kd.R_mono (Kd.R_far (p:=⟨gb743,3,none⟩) (Kd.R_far (p:=⟨gb743,2,none⟩) (Kd.R_far (p:=⟨gb743,1,none⟩) (Kd.R_far (p:=⟨gb743,0,none⟩) (Kd.R_types HO741.out BK743.out (by decide)) (fun _ hk => hk.2) (.int .i64 t734)) (fun _ hk => hk.2) (.int .i64 t735)) (fun _ hk => hk.2) (.slice Ao100 t736.length co100)) (fun _ hk => hk.2) (.slice Ao101 t739.length co101)) (fun _ h_ => h_.1))) : P := h
theorem qq5 {P : Prop} (h : P := by (with_reducible repeat (first | apply kA | apply kN | apply kD));exact (Kd.R_mono (Kd.R_far (p:=⟨gb743,3,none⟩) (Kd.R_far (p:=⟨gb743,2,none⟩) (Kd.R_far (p:=⟨gb743,1,none⟩) (Kd.R_far (p:=⟨gb743,0,none⟩) (Kd.R_types HO738.out BK743.out (by decide)) (fun _ hk => hk.2) (.int .i64 t734)) (fun _ hk => hk.2) (.int .i64 t735)) (fun _ hk => hk.2) (.slice Ao100 t736.length co100)) (fun _ hk => hk.2) (.slice Ao101 t739.length co101)) (fun _ h_ => h_.1))) : P := h
theorem qq6 {P : Prop} (h : P := by (try simp only [List.map_toArray,List.map_cons,List.map_nil]);first | done | (rw [show (l1.take (x12_1 : Int).toNat).length = x12_1.toNat from qq178] <;> rfl) | rfl | (simp only [List.length_drop,List.length_take];rfl)) : P := h
theorem qq7 {P : Prop} (h : P := by repeat (first | (with_reducible first | exact HI0.out | apply IsS141.alloc | apply IsS141.drewN | apply IsS141.drew | apply IsS141.set_1 | apply IsS141.set_2 | refine IsS141.far ?_ NB0_594.out _ | refine IsS141.far ?_ NB0_595.out _ | refine IsS141.far ?_ NB0_603.out _ | refine IsS141.far ?_ NB0_618.out _) | exact HI0.out)) : P := h
theorem qq8 {P : Prop} (h : P := by repeat (first | (with_reducible first | exact HI0.out | apply IsS141.alloc | apply IsS141.drewN | apply IsS141.drew | apply IsS141.set_1 | apply IsS141.set_2 | refine IsS141.far ?_ NB0_515.out _ | refine IsS141.far ?_ NB0_516.out _ | refine IsS141.far ?_ NB0_517.out _ | refine IsS141.far ?_ NB0_534.out _) | exact HI0.out)) : P := h
theorem qq9 {P : Prop} (h : P := by (with_reducible repeat (first | apply Kd.S_alloc | apply Kd.S_drewN | apply Kd.S_drew));exact (Kd.S_mono (Kd.S_far (p:=⟨gb732,1,none⟩) (Kd.S_far (p:=⟨gb732,0,none⟩) (Kd.S_types HO731.out BK732.out (by decide)) (fun _ hk => hk.2) (.int .i64 t724)) (fun _ hk => hk.2) (.int .i64 t725)) (fun _ h_ => h_.1))) : P := h
theorem qq10 {P : Prop} (h : P := by rw [hg];exact (keep_size (w:=w) (g:=g) (row:=none) qq36)) : P := h
theorem qq11 {P : Prop} (h : P := by rw [hg];exact (keep_size (w:=w) (g:=g) (row:=none) qq37)) : P := h
theorem qq12 {P : Prop} (h : P := by repeat (first | (with_reducible first | exact HI0.out | apply IsS141.alloc | apply IsS141.drewN | apply IsS141.drew | apply IsS141.set_1 | apply IsS141.set_2 | refine IsS141.far ?_ NB0_594.out _ | refine IsS141.far ?_ NB0_595.out _ | refine IsS141.far ?_ NB0_603.out _) | exact HI0.out)) : P := h
theorem qq13 {P : Prop} (h : P := by repeat (first | (with_reducible first | exact HI0.out | apply IsS141.alloc | apply IsS141.drewN | apply IsS141.drew | apply IsS141.set_1 | apply IsS141.set_2 | refine IsS141.far ?_ NB0_515.out _ | refine IsS141.far ?_ NB0_516.out _ | refine IsS141.far ?_ NB0_517.out _) | exact HI0.out)) : P := h
theorem qq14 {P : Prop} (h : P := by (with_reducible repeat (first | apply kA | apply kN | apply kD));exact (Kd.R_mono (Kd.R_far (p:=⟨gb732,1,none⟩) (Kd.R_far (p:=⟨gb732,0,none⟩) (Kd.R_types HO728.out BK732.out (by decide)) (fun _ hk => hk.2) (.int .i64 t724)) (fun _ hk => hk.2) (.int .i64 t725)) (fun _ h_ => h_.1))) : P := h
theorem qq15 {P : Prop} (h : P := by (with_reducible repeat (first | apply kA | apply kN | apply kD));exact (Kd.R_mono (Kd.R_far (p:=⟨gb713,1,none⟩) (Kd.R_far (p:=⟨gb713,0,none⟩) (Kd.R_types HO711.out BK713.out (by decide)) (fun _ hk => hk.2) (.int .i64 t707)) (fun _ hk => hk.2) (.int .i64 t708)) (fun _ h_ => h_.1))) : P := h
theorem qq16 {P : Prop} (h : P := by (with_reducible repeat (first | apply kA | apply kN | apply kD));exact (Kd.R_mono (Kd.R_far (p:=⟨gb704,1,none⟩) (Kd.R_far (p:=⟨gb704,0,none⟩) (Kd.R_types HO702.out BK704.out (by decide)) (fun _ hk => hk.2) (.int .i64 t698)) (fun _ hk => hk.2) (.int .i64 t699)) (fun _ h_ => h_.1))) : P := h
theorem qq17 {P : Prop} (h : P := by (with_reducible repeat (first | apply kA | apply kN | apply kD));exact (Kd.R_mono (Kd.R_far (p:=⟨gb355,1,none⟩) (Kd.R_far (p:=⟨gb355,0,none⟩) (Kd.R_types HO352.out BK355.out (by decide)) (fun _ hk => hk.2) (.int .i64 t348)) (fun _ hk => hk.2) (.int .i64 t349)) (fun _ h_ => h_.1))) : P := h
theorem qq18 {P : Prop} (h : P := by repeat (first | (with_reducible first | exact HK.out | apply KeepBut.set_ | apply keep_drewN | apply keep_drew | apply keep_alloc | refine keep_far ?_ GW594.out _ | refine keep_far ?_ GW595.out _ | refine keep_far ?_ GW603.out _ | refine keep_far ?_ GW618.out _) | exact HK.out)) : P := h
theorem qq19 {P : Prop} (h : P := by repeat (first | (with_reducible first | exact HK.out | apply KeepBut.set_ | apply keep_drewN | apply keep_drew | apply keep_alloc | refine keep_far ?_ GW515.out _ | refine keep_far ?_ GW516.out _ | refine keep_far ?_ GW517.out _ | refine keep_far ?_ GW534.out _) | exact HK.out)) : P := h
theorem qq20 {P : Prop} (h : P := by repeat (first | (with_reducible first | exact HB.out | apply bA | apply bN | apply bD | refine below_set ?_ (IsS141.ge HI0.out) | refine below_set ?_ GE594.out | refine below_set ?_ GE595.out | refine below_set ?_ GE603.out | refine below_set ?_ GE618.out) | exact HB.out)) : P := h
theorem qq21 {P : Prop} (h : P := by repeat (first | (with_reducible first | exact HB.out | apply bA | apply bN | apply bD | refine below_set ?_ (IsS141.ge HI0.out) | refine below_set ?_ GE515.out | refine below_set ?_ GE516.out | refine below_set ?_ GE517.out | refine below_set ?_ GE534.out) | exact HB.out)) : P := h
theorem qq22 {P : Prop} (h : P := by rw [hg];exact (keep_size (w:=w) (g:=g) (row:=none) qq64)) : P := h
theorem qq23 {P : Prop} (h : P := by rw [hg];exact (keep_size (w:=w) (g:=g) (row:=none) qq67)) : P := h
theorem qq24 {P : Prop} (h : P := by rw [hg];exact (below_size qq50)) : P := h
theorem qq25 {P : Prop} (h : P := by repeat (first | (with_reducible first | exact HB.out | apply bA | apply bN | apply bD | refine below_set ?_ GE704.out | refine below_set ?_ GE713.out | refine below_set ?_ GE721.out | refine below_set ?_ GE732.out | refine below_set ?_ GE743.out) | exact HB.out)) : P := h
theorem qq26 {P : Prop} (h : P := by rw [hg];exact Nat.ne_of_lt (IsS141.lt (show IsS141 w0 _ g s0_0 s0_1 s0_2 from by repeat (first | (with_reducible first | exact HI0.out | apply IsS141.alloc | apply IsS141.drewN | apply IsS141.drew | apply IsS141.set_1 | apply IsS141.set_2) | exact HI0.out)))) : P := h
theorem qq27 {P : Prop} (h : P := by rw [hg];exact Nat.ne_of_gt (IsS141.lt (show IsS141 w0 _ g s0_0 s0_1 s0_2 from by repeat (first | (with_reducible first | exact HI0.out | apply IsS141.alloc | apply IsS141.drewN | apply IsS141.drew | apply IsS141.set_1 | apply IsS141.set_2) | exact HI0.out)))) : P := h
theorem qq28 {P : Prop} (h : P := by repeat (first | (with_reducible first | exact HI686.out | apply IsS141.alloc | apply IsS141.drewN | apply IsS141.drew | apply IsS141.set_1 | apply IsS141.set_2 | refine IsS141.far ?_ NB686_673.out _ | refine IsS141.far ?_ NB686_682.out _) | exact HI686.out)) : P := h
theorem qq29 {P : Prop} (h : P := by repeat (first | (with_reducible first | exact HI347.out | apply IsS141.alloc | apply IsS141.drewN | apply IsS141.drew | apply IsS141.set_1 | apply IsS141.set_2 | refine IsS141.far ?_ NB347_343.out _ | refine IsS141.far ?_ NB347_355.out _) | exact HI347.out)) : P := h
theorem qq30 {P : Prop} (h : P := by repeat (first | (with_reducible first | exact HI284.out | apply IsS141.alloc | apply IsS141.drewN | apply IsS141.drew | apply IsS141.set_1 | apply IsS141.set_2 | refine IsS141.far ?_ NB284_280.out _ | refine IsS141.far ?_ NB284_292.out _) | exact HI284.out)) : P := h
theorem qq31 {P : Prop} (h : P := by repeat (first | (with_reducible first | exact HI170.out | apply IsS141.alloc | apply IsS141.drewN | apply IsS141.drew | apply IsS141.set_1 | apply IsS141.set_2 | refine IsS141.far ?_ NB170_166.out _ | refine IsS141.far ?_ NB170_175.out _) | exact HI170.out)) : P := h
theorem qq32 {P : Prop} (h : P := by repeat (first | (with_reducible first | exact HI0.out | apply IsS141.alloc | apply IsS141.drewN | apply IsS141.drew | apply IsS141.set_1 | apply IsS141.set_2 | refine IsS141.far ?_ NB0_594.out _ | refine IsS141.far ?_ NB0_595.out _) | exact HI0.out)) : P := h
theorem qq33 {P : Prop} (h : P := by repeat (first | (with_reducible first | exact HI0.out | apply IsS141.alloc | apply IsS141.drewN | apply IsS141.drew | apply IsS141.set_1 | apply IsS141.set_2 | refine IsS141.far ?_ NB0_566.out _ | refine IsS141.far ?_ NB0_574.out _) | exact HI0.out)) : P := h
theorem qq34 {P : Prop} (h : P := by repeat (first | (with_reducible first | exact HI0.out | apply IsS141.alloc | apply IsS141.drewN | apply IsS141.drew | apply IsS141.set_1 | apply IsS141.set_2 | refine IsS141.far ?_ NB0_548.out _ | refine IsS141.far ?_ NB0_555.out _) | exact HI0.out)) : P := h
theorem qq35 {P : Prop} (h : P := by repeat (first | (with_reducible first | exact HI0.out | apply IsS141.alloc | apply IsS141.drewN | apply IsS141.drew | apply IsS141.set_1 | apply IsS141.set_2 | refine IsS141.far ?_ NB0_248.out _ | refine IsS141.far ?_ NB0_253.out _) | exact HI0.out)) : P := h
theorem qq36 {P : Prop} (h : P := by repeat (first | (with_reducible first | exact HK.out | apply KeepBut.set_ | apply keep_drewN | apply keep_drew | apply keep_alloc | refine keep_far ?_ GW594.out _ | refine keep_far ?_ GW595.out _ | refine keep_far ?_ GW603.out _) | exact HK.out)) : P := h
theorem qq37 {P : Prop} (h : P := by repeat (first | (with_reducible first | exact HK.out | apply KeepBut.set_ | apply keep_drewN | apply keep_drew | apply keep_alloc | refine keep_far ?_ GW515.out _ | refine keep_far ?_ GW516.out _ | refine keep_far ?_ GW517.out _) | exact HK.out)) : P := h
theorem qq38 {P : Prop} (h : P := by repeat (first | (with_reducible first | exact HB.out | apply bA | apply bN | apply bD | refine below_set ?_ (IsS141.ge HI0.out) | refine below_set ?_ GE594.out | refine below_set ?_ GE595.out | refine below_set ?_ GE603.out) | exact HB.out)) : P := h
theorem qq39 {P : Prop} (h : P := by repeat (first | (with_reducible first | exact HB.out | apply bA | apply bN | apply bD | refine below_set ?_ (IsS141.ge HI0.out) | refine below_set ?_ GE515.out | refine below_set ?_ GE516.out | refine below_set ?_ GE517.out) | exact HB.out)) : P := h
theorem qq40 {P : Prop} (h : P := by rw [hg];exact (keep_size (w:=w) (g:=g) (row:=none) qq106)) : P := h
theorem qq41 {P : Prop} (h : P := by rw [hg];exact (keep_size (w:=w) (g:=g) (row:=none) qq107)) : P := h
theorem qq42 {P : Prop} (h : P := by rw [hg];exact (keep_size (w:=w) (g:=g) (row:=none) qq108)) : P := h
theorem qq43 {P : Prop} (h : P := by rw [hg];exact (keep_size (w:=w) (g:=g) (row:=none) qq109)) : P := h
theorem qq44 {P : Prop} (h : P := by rw [hg];exact (keep_size (w:=w) (g:=g) (row:=none) qq110)) : P := h
theorem qq45 {P : Prop} (h : P := by rw [hg];exact Nat.ne_of_lt (blk_lt (g:=gb603) (o:=.cells #[.int .i64 t596,.int .i64 t597,.slice Ao15 t598.length co15] 51 (0,0)) qq206)) : P := h
theorem qq46 {P : Prop} (h : P := by rw [hg];exact Nat.ne_of_lt (blk_lt (g:=gb515) (o:=.cells #[.int .i64 a1_0,.int .i64 a1_1,.slice A1_2 l1_2.length c1_2] 51 (0,0)) qq216)) : P := h
theorem qq47 {P : Prop} (h : P := by rw [hg];exact Nat.ne_of_gt (blk_lt (g:=gb603) (o:=.cells #[.int .i64 t596,.int .i64 t597,.slice Ao15 t598.length co15] 51 (0,0)) qq206)) : P := h
theorem qq48 {P : Prop} (h : P := by rw [hg];exact Nat.ne_of_gt (blk_lt (g:=gb515) (o:=.cells #[.int .i64 a1_0,.int .i64 a1_1,.slice A1_2 l1_2.length c1_2] 51 (0,0)) qq216)) : P := h
theorem qq49 {P : Prop} (h : P := by rw [hg];exact (below_size qq103)) : P := h
theorem qq50 {P : Prop} (h : P := by repeat (first | (with_reducible first | exact HB.out | apply bA | apply bN | apply bD | refine below_set ?_ GE704.out | refine below_set ?_ GE713.out | refine below_set ?_ GE721.out | refine below_set ?_ GE732.out) | exact HB.out)) : P := h
theorem qq51 {P : Prop} (h : P := by exact (Reps.one (show Kd.M (Kd.int .i64) _ _ _ 0 [.int .i64 0] from rfl) (Reps.one (show Kd.M (Kd.int .i64) _ _ _ 10 [.int .i64 10] from rfl) (Reps.one (show Kd.M (Kd.int .i64) _ _ _ 11 [.int .i64 11] from rfl) (Reps.none _ _))))) : P := h
theorem qq52 {P : Prop} (h : P := by rw [hg];exact Nat.ne_of_lt (blk_lt (g:=gb657) (o:=.cells #[.int .i64 0,.int .i64 0,.slice none 0 0,.slice none 0 0] 27 (0,0)) qq202)) : P := h
theorem qq53 {P : Prop} (h : P := by rw [hg];exact Nat.ne_of_lt (blk_lt (g:=gb595) (o:=.cells #[.int .i64 0,.int .i64 0,.slice none 0 0,.slice none 0 0] 27 (0,0)) qq207)) : P := h
theorem qq54 {P : Prop} (h : P := by rw [hg];exact Nat.ne_of_lt (blk_lt (g:=gb517) (o:=.cells #[.int .i64 0,.int .i64 0,.slice none 0 0,.slice none 0 0] 27 (0,0)) qq214)) : P := h
theorem qq55 {P : Prop} (h : P := by rw [hg];exact Nat.ne_of_gt (blk_lt (g:=gb657) (o:=.cells #[.int .i64 0,.int .i64 0,.slice none 0 0,.slice none 0 0] 27 (0,0)) qq202)) : P := h
theorem qq56 {P : Prop} (h : P := by rw [hg];exact Nat.ne_of_gt (blk_lt (g:=gb595) (o:=.cells #[.int .i64 0,.int .i64 0,.slice none 0 0,.slice none 0 0] 27 (0,0)) qq207)) : P := h
theorem qq57 {P : Prop} (h : P := by rw [hg];exact Nat.ne_of_gt (blk_lt (g:=gb517) (o:=.cells #[.int .i64 0,.int .i64 0,.slice none 0 0,.slice none 0 0] 27 (0,0)) qq214)) : P := h
theorem qq58 {P : Prop} (h : P := by exact (keep_size (w:=w) (g:=g) (row:=none) qq111)) : P := h
theorem qq59 {P : Prop} (h : P := by repeat (first | (with_reducible first | exact HI347.out | apply IsS141.alloc | apply IsS141.drewN | apply IsS141.drew | apply IsS141.set_1 | apply IsS141.set_2 | refine IsS141.far ?_ NB347_343.out _) | exact HI347.out)) : P := h
theorem qq60 {P : Prop} (h : P := by repeat (first | (with_reducible first | exact HI284.out | apply IsS141.alloc | apply IsS141.drewN | apply IsS141.drew | apply IsS141.set_1 | apply IsS141.set_2 | refine IsS141.far ?_ NB284_280.out _) | exact HI284.out)) : P := h
theorem qq61 {P : Prop} (h : P := by repeat (first | (with_reducible first | exact HI170.out | apply IsS141.alloc | apply IsS141.drewN | apply IsS141.drew | apply IsS141.set_1 | apply IsS141.set_2 | refine IsS141.far ?_ NB170_166.out _) | exact HI170.out)) : P := h
theorem qq62 {P : Prop} (h : P := by rw [hg];exact Nat.ne_of_lt (blk_lt (g:=gb594) (o:=.cells #[.int .i64 0,.int .i64 0,.slice none 0 0] 51 (0,0)) qq208)) : P := h
theorem qq63 {P : Prop} (h : P := by rw [hg];exact Nat.ne_of_gt (blk_lt (g:=gb594) (o:=.cells #[.int .i64 0,.int .i64 0,.slice none 0 0] 51 (0,0)) qq208)) : P := h
theorem qq64 {P : Prop} (h : P := by repeat (first | (with_reducible first | exact HK.out | apply KeepBut.set_ | apply keep_drewN | apply keep_drew | apply keep_alloc | refine keep_far ?_ GW594.out _ | refine keep_far ?_ GW595.out _) | exact HK.out)) : P := h
theorem qq65 {P : Prop} (h : P := by repeat (first | (with_reducible first | exact HK.out | apply KeepBut.set_ | apply keep_drewN | apply keep_drew | apply keep_alloc | refine keep_far ?_ GW566.out _ | refine keep_far ?_ GW574.out _) | exact HK.out)) : P := h
theorem qq66 {P : Prop} (h : P := by repeat (first | (with_reducible first | exact HK.out | apply KeepBut.set_ | apply keep_drewN | apply keep_drew | apply keep_alloc | refine keep_far ?_ GW548.out _ | refine keep_far ?_ GW555.out _) | exact HK.out)) : P := h
theorem qq67 {P : Prop} (h : P := by repeat (first | (with_reducible first | exact HK.out | apply KeepBut.set_ | apply keep_drewN | apply keep_drew | apply keep_alloc | refine keep_far ?_ GW515.out _ | refine keep_far ?_ GW516.out _) | exact HK.out)) : P := h
theorem qq68 {P : Prop} (h : P := by repeat (first | (with_reducible first | exact HK.out | apply KeepBut.set_ | apply keep_drewN | apply keep_drew | apply keep_alloc | refine keep_far ?_ GW248.out _ | refine keep_far ?_ GW253.out _) | exact HK.out)) : P := h
theorem qq69 {P : Prop} (h : P := by repeat (first | (with_reducible first | exact HI0.out | apply IsS141.alloc | apply IsS141.drewN | apply IsS141.drew | apply IsS141.set_1 | apply IsS141.set_2 | refine IsS141.far ?_ NB0_566.out _) | exact HI0.out)) : P := h
theorem qq70 {P : Prop} (h : P := by repeat (first | (with_reducible first | exact HI0.out | apply IsS141.alloc | apply IsS141.drewN | apply IsS141.drew | apply IsS141.set_1 | apply IsS141.set_2 | refine IsS141.far ?_ NB0_548.out _) | exact HI0.out)) : P := h
theorem qq71 {P : Prop} (h : P := by repeat (first | (with_reducible first | exact HI0.out | apply IsS141.alloc | apply IsS141.drewN | apply IsS141.drew | apply IsS141.set_1 | apply IsS141.set_2 | refine IsS141.far ?_ NB0_248.out _) | exact HI0.out)) : P := h
theorem qq72 {P : Prop} (h : P := by repeat (first | (with_reducible first | exact HI0.out | apply IsS141.alloc | apply IsS141.drewN | apply IsS141.drew | apply IsS141.set_1 | apply IsS141.set_2 | refine IsS141.far ?_ NB0_152.out _) | exact HI0.out)) : P := h
theorem qq73 {P : Prop} (h : P := by repeat (first | (with_reducible first | exact HI0.out | apply IsS141.alloc | apply IsS141.drewN | apply IsS141.drew | apply IsS141.set_1 | apply IsS141.set_2 | refine IsS141.far ?_ NB0_133.out _) | exact HI0.out)) : P := h
theorem qq74 {P : Prop} (h : P := by (with_reducible repeat (first | refine dN ?_ _ | refine dD ?_ | refine dA ?_ _));refine blk_far ?_ NB603_618.out _;(with_reducible repeat (first | refine dN ?_ _ | refine dD ?_ | refine dA ?_ _));exact BK603.out) : P := h
theorem qq75 {P : Prop} (h : P := by (with_reducible repeat (first | refine dN ?_ _ | refine dD ?_ | refine dA ?_ _));refine blk_far ?_ NB595_618.out _;(with_reducible repeat (first | refine dN ?_ _ | refine dD ?_ | refine dA ?_ _));exact BK595.out) : P := h
theorem qq76 {P : Prop} (h : P := by (with_reducible repeat (first | refine dN ?_ _ | refine dD ?_ | refine dA ?_ _));refine blk_far ?_ NB594_618.out _;(with_reducible repeat (first | refine dN ?_ _ | refine dD ?_ | refine dA ?_ _));exact BK594.out) : P := h
theorem qq77 {P : Prop} (h : P := by (with_reducible repeat (first | refine dN ?_ _ | refine dD ?_ | refine dA ?_ _));refine blk_far ?_ NB566_574.out _;(with_reducible repeat (first | refine dN ?_ _ | refine dD ?_ | refine dA ?_ _));exact BK566.out) : P := h
theorem qq78 {P : Prop} (h : P := by (with_reducible repeat (first | refine dN ?_ _ | refine dD ?_ | refine dA ?_ _));refine blk_far ?_ NB248_253.out _;(with_reducible repeat (first | refine dN ?_ _ | refine dD ?_ | refine dA ?_ _));exact BK248.out) : P := h
theorem qq79 {P : Prop} (h : P := by rw [hg];exact (below_size qq113)) : P := h
theorem qq80 {P : Prop} (h : P := by rw [hg];exact (below_size qq115)) : P := h
theorem qq81 {P : Prop} (h : P := by rw [hg];exact (below_size qq116)) : P := h
theorem qq82 {P : Prop} (h : P := by repeat (first | (with_reducible first | exact HB.out | apply bA | apply bN | apply bD | refine below_set ?_ (IsS141.ge HI686.out) | refine below_set ?_ GE673.out | refine below_set ?_ GE682.out) | exact HB.out)) : P := h
theorem qq83 {P : Prop} (h : P := by repeat (first | (with_reducible first | exact HB.out | apply bA | apply bN | apply bD | refine below_set ?_ (IsS141.ge HI641.out) | refine below_set ?_ GE636.out | refine below_set ?_ GE637.out) | exact HB.out)) : P := h
theorem qq84 {P : Prop} (h : P := by repeat (first | (with_reducible first | exact HB.out | apply bA | apply bN | apply bD | refine below_set ?_ (IsS141.ge HI347.out) | refine below_set ?_ GE343.out | refine below_set ?_ GE355.out) | exact HB.out)) : P := h
theorem qq85 {P : Prop} (h : P := by repeat (first | (with_reducible first | exact HB.out | apply bA | apply bN | apply bD | refine below_set ?_ (IsS141.ge HI284.out) | refine below_set ?_ GE280.out | refine below_set ?_ GE292.out) | exact HB.out)) : P := h
theorem qq86 {P : Prop} (h : P := by repeat (first | (with_reducible first | exact HB.out | apply bA | apply bN | apply bD | refine below_set ?_ (IsS141.ge HI170.out) | refine below_set ?_ GE166.out | refine below_set ?_ GE175.out) | exact HB.out)) : P := h
theorem qq87 {P : Prop} (h : P := by repeat (first | (with_reducible first | exact HB.out | apply bA | apply bN | apply bD | refine below_set ?_ (IsS141.ge HI0.out) | refine below_set ?_ GE594.out | refine below_set ?_ GE595.out) | exact HB.out)) : P := h
theorem qq88 {P : Prop} (h : P := by repeat (first | (with_reducible first | exact HB.out | apply bA | apply bN | apply bD | refine below_set ?_ (IsS141.ge HI0.out) | refine below_set ?_ GE566.out | refine below_set ?_ GE574.out) | exact HB.out)) : P := h
theorem qq89 {P : Prop} (h : P := by repeat (first | (with_reducible first | exact HB.out | apply bA | apply bN | apply bD | refine below_set ?_ (IsS141.ge HI0.out) | refine below_set ?_ GE548.out | refine below_set ?_ GE555.out) | exact HB.out)) : P := h
theorem qq90 {P : Prop} (h : P := by repeat (first | (with_reducible first | exact HB.out | apply bA | apply bN | apply bD | refine below_set ?_ (IsS141.ge HI0.out) | refine below_set ?_ GE248.out | refine below_set ?_ GE253.out) | exact HB.out)) : P := h
theorem qq91 {P : Prop} (h : P := by exact Kd.V_mk HC375.out (Kd.F_below (Kd.C_F Kd.heap_bool HR375.out) qq166)) : P := h
theorem qq92 {P : Prop} (h : P := by rw [hg];exact (keep_size (w:=w) (g:=g) (row:=none) qq146)) : P := h
theorem qq93 {P : Prop} (h : P := by rw [hg];exact Nat.ne_of_lt (blk_lt (g:=gb721) (o:=.cells #[.int .i64 t716,.int .i64 t717] 37 (0,0)) qq195)) : P := h
theorem qq94 {P : Prop} (h : P := by rw [hg];exact Nat.ne_of_lt (blk_lt (g:=gb713) (o:=.cells #[.int .i64 t707,.int .i64 t708] 37 (0,0)) qq196)) : P := h
theorem qq95 {P : Prop} (h : P := by rw [hg];exact Nat.ne_of_lt (blk_lt (g:=gb704) (o:=.cells #[.int .i64 t698,.int .i64 t699] 37 (0,0)) qq197)) : P := h
theorem qq96 {P : Prop} (h : P := by rw [hg];exact Nat.ne_of_lt (blk_lt (g:=gb516) (o:=.cells #[.int .i64 a2_0,.int .i64 a2_1] 37 (0,0)) qq215)) : P := h
theorem qq97 {P : Prop} (h : P := by rw [hg];exact Nat.ne_of_gt (blk_lt (g:=gb721) (o:=.cells #[.int .i64 t716,.int .i64 t717] 37 (0,0)) qq195)) : P := h
theorem qq98 {P : Prop} (h : P := by rw [hg];exact Nat.ne_of_gt (blk_lt (g:=gb713) (o:=.cells #[.int .i64 t707,.int .i64 t708] 37 (0,0)) qq196)) : P := h
theorem qq99 {P : Prop} (h : P := by rw [hg];exact Nat.ne_of_gt (blk_lt (g:=gb704) (o:=.cells #[.int .i64 t698,.int .i64 t699] 37 (0,0)) qq197)) : P := h
theorem qq100 {P : Prop} (h : P := by rw [hg];exact Nat.ne_of_gt (blk_lt (g:=gb516) (o:=.cells #[.int .i64 a2_0,.int .i64 a2_1] 37 (0,0)) qq215)) : P := h
theorem qq101 {P : Prop} (h : P := by rw [hg];exact (below_size qq127)) : P := h
theorem qq102 {P : Prop} (h : P := by rw [hg];exact (below_size qq128)) : P := h
theorem qq103 {P : Prop} (h : P := by repeat (first | (with_reducible first | exact HB.out | apply bA | apply bN | apply bD | refine below_set ?_ GE704.out | refine below_set ?_ GE713.out | refine below_set ?_ GE721.out) | exact HB.out)) : P := h
theorem qq104 {P : Prop} (h : P := by exact (keep_size (w:=w) (g:=g) (row:=none) qq146)) : P := h
theorem qq105 {P : Prop} (h : P := by have h_ : (t415 : Int) < ((t410.length : Int) : Int):=odt qq296;first | exact h_ | (have e_:=(Kd.R_reads' HO412.out).1;omega) | simpa using h_) : P := h
theorem qq106 {P : Prop} (h : P := by repeat (first | (with_reducible first | exact HK.out | apply KeepBut.set_ | apply keep_drewN | apply keep_drew | apply keep_alloc | refine keep_far ?_ GW594.out _) | exact HK.out)) : P := h
theorem qq107 {P : Prop} (h : P := by repeat (first | (with_reducible first | exact HK.out | apply KeepBut.set_ | apply keep_drewN | apply keep_drew | apply keep_alloc | refine keep_far ?_ GW566.out _) | exact HK.out)) : P := h
theorem qq108 {P : Prop} (h : P := by repeat (first | (with_reducible first | exact HK.out | apply KeepBut.set_ | apply keep_drewN | apply keep_drew | apply keep_alloc | refine keep_far ?_ GW548.out _) | exact HK.out)) : P := h
theorem qq109 {P : Prop} (h : P := by repeat (first | (with_reducible first | exact HK.out | apply KeepBut.set_ | apply keep_drewN | apply keep_drew | apply keep_alloc | refine keep_far ?_ GW515.out _) | exact HK.out)) : P := h
theorem qq110 {P : Prop} (h : P := by repeat (first | (with_reducible first | exact HK.out | apply KeepBut.set_ | apply keep_drewN | apply keep_drew | apply keep_alloc | refine keep_far ?_ GW248.out _) | exact HK.out)) : P := h
theorem qq111 {P : Prop} (h : P := by repeat (first | (with_reducible first | exact HK.out | apply KeepBut.set_ | apply keep_drewN | apply keep_drew | apply keep_alloc | refine keep_far ?_ GW152.out _) | exact HK.out)) : P := h
theorem qq112 {P : Prop} (h : P := by repeat (first | (with_reducible first | exact HK.out | apply KeepBut.set_ | apply keep_drewN | apply keep_drew | apply keep_alloc | refine keep_far ?_ GW133.out _) | exact HK.out)) : P := h
theorem qq113 {P : Prop} (h : P := by repeat (first | (with_reducible first | exact HB.out | apply bA | apply bN | apply bD | refine below_set ?_ (IsS141.ge HI347.out) | refine below_set ?_ GE343.out) | exact HB.out)) : P := h
theorem qq114 {P : Prop} (h : P := by repeat (first | (with_reducible first | exact HB.out | apply bA | apply bN | apply bD | refine below_set ?_ (IsS141.ge HI315.out) | refine below_set ?_ GE311.out) | exact HB.out)) : P := h
theorem qq115 {P : Prop} (h : P := by repeat (first | (with_reducible first | exact HB.out | apply bA | apply bN | apply bD | refine below_set ?_ (IsS141.ge HI284.out) | refine below_set ?_ GE280.out) | exact HB.out)) : P := h
theorem qq116 {P : Prop} (h : P := by repeat (first | (with_reducible first | exact HB.out | apply bA | apply bN | apply bD | refine below_set ?_ (IsS141.ge HI170.out) | refine below_set ?_ GE166.out) | exact HB.out)) : P := h
theorem qq117 {P : Prop} (h : P := by repeat (first | (with_reducible first | exact HB.out | apply bA | apply bN | apply bD | refine below_set ?_ (IsS141.ge HI0.out) | refine below_set ?_ GE566.out) | exact HB.out)) : P := h
theorem qq118 {P : Prop} (h : P := by repeat (first | (with_reducible first | exact HB.out | apply bA | apply bN | apply bD | refine below_set ?_ (IsS141.ge HI0.out) | refine below_set ?_ GE548.out) | exact HB.out)) : P := h
theorem qq119 {P : Prop} (h : P := by repeat (first | (with_reducible first | exact HB.out | apply bA | apply bN | apply bD | refine below_set ?_ (IsS141.ge HI0.out) | refine below_set ?_ GE248.out) | exact HB.out)) : P := h
theorem qq120 {P : Prop} (h : P := by repeat (first | (with_reducible first | exact HB.out | apply bA | apply bN | apply bD | refine below_set ?_ (IsS141.ge HI0.out) | refine below_set ?_ GE152.out) | exact HB.out)) : P := h
theorem qq121 {P : Prop} (h : P := by repeat (first | (with_reducible first | exact HB.out | apply bA | apply bN | apply bD | refine below_set ?_ (IsS141.ge HI0.out) | refine below_set ?_ GE133.out) | exact HB.out)) : P := h
theorem qq122 {P : Prop} (h : P := by repeat (first | (with_reducible first | exact HI0.out | apply IsS141.alloc | apply IsS141.drewN | apply IsS141.drew | apply IsS141.set_1 | apply IsS141.set_2) | exact HI0.out)) : P := h
theorem qq123 {P : Prop} (h : P := by rw [hg];exact (below_size qq154)) : P := h
theorem qq124 {P : Prop} (h : P := by rw [hg];exact (below_size qq156)) : P := h
theorem qq125 {P : Prop} (h : P := by rw [hg];exact (below_size qq157)) : P := h
theorem qq126 {P : Prop} (h : P := by rw [hg];exact (below_size qq158)) : P := h
theorem qq127 {P : Prop} (h : P := by repeat (first | (with_reducible first | exact HB.out | apply bA | apply bN | apply bD | refine below_set ?_ GE704.out | refine below_set ?_ GE713.out) | exact HB.out)) : P := h
theorem qq128 {P : Prop} (h : P := by repeat (first | (with_reducible first | exact HB.out | apply bA | apply bN | apply bD | refine below_set ?_ GE657.out | refine below_set ?_ GE671.out) | exact HB.out)) : P := h
theorem qq129 {P : Prop} (h : P := by first | rfl | (simp [errW_none,errW_some] <;> rfl) | (simp only [← hji53];first | rfl | (simp [errW_none,errW_some] <;> rfl)) | (simp [*,errW_none,errW_some] <;> rfl)) : P := h
theorem qq130 {P : Prop} (h : P := by first | rfl | (simp [errW_none,errW_some] <;> rfl) | (simp only [← hji41];first | rfl | (simp [errW_none,errW_some] <;> rfl)) | (simp [*,errW_none,errW_some] <;> rfl)) : P := h
theorem qq131 {P : Prop} (h : P := by repeat (first | (with_reducible first | exact HB.out | apply bA | apply bN | apply bD | refine below_set ?_ GB12.out | refine below_set ?_ GE477.out) | exact HB.out)) : P := h
theorem qq132 {P : Prop} (h : P := by first | rfl | (simp [errW_none,errW_some] <;> rfl) | (simp only [← hji8];first | rfl | (simp [errW_none,errW_some] <;> rfl)) | (simp [*,errW_none,errW_some] <;> rfl)) : P := h
theorem qq133 {P : Prop} (h : P := by exact (below_size qq161)) : P := h
theorem qq134 {P : Prop} (h : P := by exact (below_size qq165)) : P := h
theorem qq135 {P : Prop} (h : P := by repeat (first | exact (Kd.C_below HR381_0.out HB.out) | (with_reducible refine cA ?_ _) | (with_reducible refine cN ?_ _) | (with_reducible refine cD ?_))) : P := h
theorem qq136 {P : Prop} (h : P := by repeat (first | exact (Kd.C_below HR0_2.out HB.out) | (with_reducible refine cA ?_ _) | (with_reducible refine cN ?_ _) | (with_reducible refine cD ?_))) : P := h
theorem qq137 {P : Prop} (h : P := by repeat (first | exact (Kd.V_reads' HO378.out).2.2 | (with_reducible refine cA ?_ _) | (with_reducible refine cN ?_ _) | (with_reducible refine cD ?_))) : P := h
theorem qq138 {P : Prop} (h : P := by repeat (first | exact (Kd.R_reads' HO390.out).2.2 | (with_reducible refine cA ?_ _) | (with_reducible refine cN ?_ _) | (with_reducible refine cD ?_))) : P := h
theorem qq139 {P : Prop} (h : P := by repeat (first | exact (Kd.R_reads' HO304.out).2.2 | (with_reducible refine cA ?_ _) | (with_reducible refine cN ?_ _) | (with_reducible refine cD ?_))) : P := h
theorem qq140 {P : Prop} (h : P := by repeat (first | exact (Kd.R_reads' HO231.out).2.2 | (with_reducible refine cA ?_ _) | (with_reducible refine cN ?_ _) | (with_reducible refine cD ?_))) : P := h
theorem qq141 {P : Prop} (h : P := by repeat (first | exact (Kd.Q_reads' HO600.out).2.2 | (with_reducible refine cA ?_ _) | (with_reducible refine cN ?_ _) | (with_reducible refine cD ?_))) : P := h
theorem qq142 {P : Prop} (h : P := by repeat (first | exact (Kd.C_below HR1.out HB.out) | (with_reducible refine cA ?_ _) | (with_reducible refine cN ?_ _) | (with_reducible refine cD ?_))) : P := h
theorem qq143 {P : Prop} (h : P := by repeat (first | exact (Kd.C_below HR0.out HB.out) | (with_reducible refine cA ?_ _) | (with_reducible refine cN ?_ _) | (with_reducible refine cD ?_))) : P := h
theorem qq144 {P : Prop} (h : P := by repeat (first | exact (Kd.V_reads' HO_1.out).2.2 | (with_reducible refine cA ?_ _) | (with_reducible refine cN ?_ _) | (with_reducible refine cD ?_))) : P := h
theorem qq145 {P : Prop} (h : P := by repeat (first | exact (Kd.R_reads' HO_7.out).2.2 | (with_reducible refine cA ?_ _) | (with_reducible refine cN ?_ _) | (with_reducible refine cD ?_))) : P := h
theorem qq146 {P : Prop} (h : P := by repeat (first | (with_reducible first | exact HK.out | apply KeepBut.set_ | apply keep_drewN | apply keep_drew | apply keep_alloc) | exact HK.out)) : P := h
theorem qq147 {P : Prop} (h : P := by exact qq161) : P := h
theorem qq148 {P : Prop} (h : P := by exact qq165) : P := h
theorem qq149 {P : Prop} (h : P := by repeat (first | (with_reducible first | exact HB.out | apply bA | apply bN | apply bD | refine below_set ?_ (IsS141.ge HI0.out)) | exact HB.out)) : P := h
theorem qq150 {P : Prop} (h : P := by (try simp only [hl5_2]);(try simp only [hl5_3]);(with_reducible repeat (first | refine dN ?_ _ | refine dD ?_ | refine dA ?_ _));exact BK477.out) : P := h
theorem qq151 {P : Prop} (h : P := by first | exact Kd.R_nil _ _ _ _ _ | exact Kd.N_nil _ _ _ _ _ | exact Kd.V_nil _ _ _ _ _ | exact Kd.Q_nil _ _ _ _ _ | exact Kd.S_nil _ _ _ _ _) : P := h
theorem qq152 {P : Prop} (h : P := by rw [hg];exact (below_size qq185)) : P := h
theorem qq153 {P : Prop} (h : P := by rw [hg];exact (below_size qq189)) : P := h
theorem qq154 {P : Prop} (h : P := by repeat (first | (with_reducible first | exact HB.out | apply bA | apply bN | apply bD | refine below_set ?_ GE704.out) | exact HB.out)) : P := h
theorem qq155 {P : Prop} (h : P := by repeat (first | (with_reducible first | exact HB.out | apply bA | apply bN | apply bD | refine below_set ?_ GE693.out) | exact HB.out)) : P := h
theorem qq156 {P : Prop} (h : P := by repeat (first | (with_reducible first | exact HB.out | apply bA | apply bN | apply bD | refine below_set ?_ GE673.out) | exact HB.out)) : P := h
theorem qq157 {P : Prop} (h : P := by repeat (first | (with_reducible first | exact HB.out | apply bA | apply bN | apply bD | refine below_set ?_ GE657.out) | exact HB.out)) : P := h
theorem qq158 {P : Prop} (h : P := by repeat (first | (with_reducible first | exact HB.out | apply bA | apply bN | apply bD | refine below_set ?_ GE636.out) | exact HB.out)) : P := h
theorem qq159 {P : Prop} (h : P := by repeat (first | (with_reducible first | exact HB.out | apply bA | apply bN | apply bD | refine below_set ?_ GE502.out) | exact HB.out)) : P := h
theorem qq160 {P : Prop} (h : P := by repeat (first | (with_reducible first | exact HB.out | apply bA | apply bN | apply bD | refine below_set ?_ GE477.out) | exact HB.out)) : P := h
theorem qq161 {P : Prop} (h : P := by repeat (first | (with_reducible first | exact HB.out | apply bA | apply bN | apply bD | refine below_set ?_ GE453.out) | exact HB.out)) : P := h
theorem qq162 {P : Prop} (h : P := by repeat (first | (with_reducible first | exact HB.out | apply bA | apply bN | apply bD | refine below_set ?_ GE450.out) | exact HB.out)) : P := h
theorem qq163 {P : Prop} (h : P := by repeat (first | (with_reducible first | exact HB.out | apply bA | apply bN | apply bD | refine below_set ?_ GE447.out) | exact HB.out)) : P := h
theorem qq164 {P : Prop} (h : P := by repeat (first | (with_reducible first | exact HB.out | apply bA | apply bN | apply bD | refine below_set ?_ GE442.out) | exact HB.out)) : P := h
theorem qq165 {P : Prop} (h : P := by repeat (first | (with_reducible first | exact HB.out | apply bA | apply bN | apply bD | refine below_set ?_ GE380.out) | exact HB.out)) : P := h
theorem qq166 {P : Prop} (h : P := by repeat (first | (with_reducible first | exact HB.out | apply bA | apply bN | apply bD | refine below_set ?_ GE373.out) | exact HB.out)) : P := h
theorem qq167 {P : Prop} (h : P := by repeat (first | (with_reducible first | exact HB.out | apply bA | apply bN | apply bD | refine below_set ?_ GE329.out) | exact HB.out)) : P := h
theorem qq168 {P : Prop} (h : P := by repeat (first | (with_reducible first | exact HB.out | apply bA | apply bN | apply bD | refine below_set ?_ GE323.out) | exact HB.out)) : P := h
theorem qq169 {P : Prop} (h : P := by repeat (first | (with_reducible first | exact HB.out | apply bA | apply bN | apply bD | refine below_set ?_ GE299.out) | exact HB.out)) : P := h
theorem qq170 {P : Prop} (h : P := by repeat (first | (with_reducible first | exact HB.out | apply bA | apply bN | apply bD | refine below_set ?_ GE238.out) | exact HB.out)) : P := h
theorem qq171 {P : Prop} (h : P := by repeat (first | (with_reducible first | exact HB.out | apply bA | apply bN | apply bD | refine below_set ?_ GE226.out) | exact HB.out)) : P := h
theorem qq172 {P : Prop} (h : P := by repeat (first | (with_reducible first | exact HB.out | apply bA | apply bN | apply bD | refine below_set ?_ GE220.out) | exact HB.out)) : P := h
theorem qq173 {P : Prop} (h : P := by repeat (first | (with_reducible first | exact HB.out | apply bA | apply bN | apply bD | refine below_set ?_ GE193.out) | exact HB.out)) : P := h
theorem qq174 {P : Prop} (h : P := by repeat (first | (with_reducible first | exact HB.out | apply bA | apply bN | apply bD | refine below_set ?_ GE147.out) | exact HB.out)) : P := h
theorem qq175 {P : Prop} (h : P := by repeat (first | (with_reducible first | exact HB.out | apply bA | apply bN | apply bD | refine below_set ?_ GE143.out) | exact HB.out)) : P := h
theorem qq176 {P : Prop} (h : P := by repeat (first | (with_reducible first | exact HB.out | apply bA | apply bN | apply bD | refine below_set ?_ GE103.out) | exact HB.out)) : P := h
theorem qq177 {P : Prop} (h : P := by (try simp only [List.map_toArray,List.map_cons,List.map_nil]);first | done | rfl | (simp only [List.length_drop,List.length_take];rfl)) : P := h
theorem qq178 {P : Prop} (h : P := by rw [List.length_take];have h_ : (x12_1 : Int) ≤ (l1.length : Int):=odt qq296;omega) : P := h
theorem qq179 {P : Prop} (h : P := by repeat (first | exact HR0.out | (with_reducible refine cA ?_ _) | (with_reducible refine cN ?_ _) | (with_reducible refine cD ?_))) : P := h
theorem qq180 {P : Prop} (h : P := by (try simp only [hl5_2]);(try simp only [hl5_3]);(with_reducible repeat (first | apply kA | apply kN | apply kD));exact HO_9.out) : P := h
theorem qq181 {P : Prop} (h : P := by exact (below_size qq189)) : P := h
theorem qq182 {P : Prop} (h : P := by exact qq189) : P := h
theorem qq183 {P : Prop} (h : P := by (with_reducible repeat (first | apply kA | apply kN | apply kD));exact Kd.R_mono HO741.out (fun _ hk => trivial)) : P := h
theorem qq184 {P : Prop} (h : P := by (with_reducible repeat (first | apply kA | apply kN | apply kD));exact Kd.R_mono HO_7.out (fun _ hk => trivial)) : P := h
theorem qq185 {P : Prop} (h : P := by repeat (first | (with_reducible first | exact HBW.out | apply bA | apply bN | apply bD) | exact HBW.out)) : P := h
theorem qq186 {P : Prop} (h : P := by (with_reducible repeat (first | apply Kd.S_alloc | apply Kd.S_drewN | apply Kd.S_drew));exact HO731.out) : P := h
theorem qq187 {P : Prop} (h : P := by (with_reducible repeat (first | apply Kd.Q_alloc | apply Kd.Q_drewN | apply Kd.Q_drew));exact HO662.out) : P := h
theorem qq188 {P : Prop} (h : P := by (with_reducible repeat (first | apply Kd.Q_alloc | apply Kd.Q_drewN | apply Kd.Q_drew));exact HO600.out) : P := h
theorem qq189 {P : Prop} (h : P := by repeat (first | (with_reducible first | exact HB.out | apply bA | apply bN | apply bD) | exact HB.out)) : P := h
theorem qq190 {P : Prop} (h : P := by (with_reducible repeat (first | apply Kd.V_alloc | apply Kd.V_drewN | apply Kd.V_drew));exact HO_1.out) : P := h
theorem qq191 {P : Prop} (h : P := by (with_reducible repeat (first | apply Kd.S_alloc | apply Kd.S_drewN | apply Kd.S_drew));exact HO_8.out) : P := h
theorem qq192 {P : Prop} (h : P := by (with_reducible repeat (first | apply Kd.V_alloc | apply Kd.V_drewN | apply Kd.V_drew));exact HO1.out) : P := h
theorem qq193 {P : Prop} (h : P := by (with_reducible repeat (first | refine dN ?_ _ | refine dD ?_ | refine dA ?_ _));exact BK743.out) : P := h
theorem qq194 {P : Prop} (h : P := by (with_reducible repeat (first | refine dN ?_ _ | refine dD ?_ | refine dA ?_ _));exact BK732.out) : P := h
theorem qq195 {P : Prop} (h : P := by (with_reducible repeat (first | refine dN ?_ _ | refine dD ?_ | refine dA ?_ _));exact BK721.out) : P := h
theorem qq196 {P : Prop} (h : P := by (with_reducible repeat (first | refine dN ?_ _ | refine dD ?_ | refine dA ?_ _));exact BK713.out) : P := h
theorem qq197 {P : Prop} (h : P := by (with_reducible repeat (first | refine dN ?_ _ | refine dD ?_ | refine dA ?_ _));exact BK704.out) : P := h
theorem qq198 {P : Prop} (h : P := by (with_reducible repeat (first | refine dN ?_ _ | refine dD ?_ | refine dA ?_ _));exact BK693.out) : P := h
theorem qq199 {P : Prop} (h : P := by (with_reducible repeat (first | refine dN ?_ _ | refine dD ?_ | refine dA ?_ _));exact BK682.out) : P := h
theorem qq200 {P : Prop} (h : P := by (with_reducible repeat (first | refine dN ?_ _ | refine dD ?_ | refine dA ?_ _));exact BK673.out) : P := h
theorem qq201 {P : Prop} (h : P := by (with_reducible repeat (first | refine dN ?_ _ | refine dD ?_ | refine dA ?_ _));exact BK671.out) : P := h
theorem qq202 {P : Prop} (h : P := by (with_reducible repeat (first | refine dN ?_ _ | refine dD ?_ | refine dA ?_ _));exact BK657.out) : P := h
theorem qq203 {P : Prop} (h : P := by (with_reducible repeat (first | refine dN ?_ _ | refine dD ?_ | refine dA ?_ _));exact BK637.out) : P := h
theorem qq204 {P : Prop} (h : P := by (with_reducible repeat (first | refine dN ?_ _ | refine dD ?_ | refine dA ?_ _));exact BK636.out) : P := h
theorem qq205 {P : Prop} (h : P := by (with_reducible repeat (first | refine dN ?_ _ | refine dD ?_ | refine dA ?_ _));exact BK618.out) : P := h
theorem qq206 {P : Prop} (h : P := by (with_reducible repeat (first | refine dN ?_ _ | refine dD ?_ | refine dA ?_ _));exact BK603.out) : P := h
theorem qq207 {P : Prop} (h : P := by (with_reducible repeat (first | refine dN ?_ _ | refine dD ?_ | refine dA ?_ _));exact BK595.out) : P := h
theorem qq208 {P : Prop} (h : P := by (with_reducible repeat (first | refine dN ?_ _ | refine dD ?_ | refine dA ?_ _));exact BK594.out) : P := h
theorem qq209 {P : Prop} (h : P := by (with_reducible repeat (first | refine dN ?_ _ | refine dD ?_ | refine dA ?_ _));exact BK574.out) : P := h
theorem qq210 {P : Prop} (h : P := by (with_reducible repeat (first | refine dN ?_ _ | refine dD ?_ | refine dA ?_ _));exact BK566.out) : P := h
theorem qq211 {P : Prop} (h : P := by (with_reducible repeat (first | refine dN ?_ _ | refine dD ?_ | refine dA ?_ _));exact BK555.out) : P := h
theorem qq212 {P : Prop} (h : P := by (with_reducible repeat (first | refine dN ?_ _ | refine dD ?_ | refine dA ?_ _));exact BK548.out) : P := h
theorem qq213 {P : Prop} (h : P := by (with_reducible repeat (first | refine dN ?_ _ | refine dD ?_ | refine dA ?_ _));exact BK534.out) : P := h
theorem qq214 {P : Prop} (h : P := by (with_reducible repeat (first | refine dN ?_ _ | refine dD ?_ | refine dA ?_ _));exact BK517.out) : P := h
theorem qq215 {P : Prop} (h : P := by (with_reducible repeat (first | refine dN ?_ _ | refine dD ?_ | refine dA ?_ _));exact BK516.out) : P := h
theorem qq216 {P : Prop} (h : P := by (with_reducible repeat (first | refine dN ?_ _ | refine dD ?_ | refine dA ?_ _));exact BK515.out) : P := h
theorem qq217 {P : Prop} (h : P := by (with_reducible repeat (first | refine dN ?_ _ | refine dD ?_ | refine dA ?_ _));exact BK502.out) : P := h
theorem qq218 {P : Prop} (h : P := by (with_reducible repeat (first | refine dN ?_ _ | refine dD ?_ | refine dA ?_ _));exact BK477.out) : P := h
theorem qq219 {P : Prop} (h : P := by (with_reducible repeat (first | refine dN ?_ _ | refine dD ?_ | refine dA ?_ _));exact BK453.out) : P := h
theorem qq220 {P : Prop} (h : P := by (with_reducible repeat (first | refine dN ?_ _ | refine dD ?_ | refine dA ?_ _));exact BK450.out) : P := h
theorem qq221 {P : Prop} (h : P := by (with_reducible repeat (first | refine dN ?_ _ | refine dD ?_ | refine dA ?_ _));exact BK447.out) : P := h
theorem qq222 {P : Prop} (h : P := by (with_reducible repeat (first | refine dN ?_ _ | refine dD ?_ | refine dA ?_ _));exact BK442.out) : P := h
theorem qq223 {P : Prop} (h : P := by (with_reducible repeat (first | refine dN ?_ _ | refine dD ?_ | refine dA ?_ _));exact BK380.out) : P := h
theorem qq224 {P : Prop} (h : P := by (with_reducible repeat (first | refine dN ?_ _ | refine dD ?_ | refine dA ?_ _));exact BK373.out) : P := h
theorem qq225 {P : Prop} (h : P := by (with_reducible repeat (first | refine dN ?_ _ | refine dD ?_ | refine dA ?_ _));exact BK355.out) : P := h
theorem qq226 {P : Prop} (h : P := by (with_reducible repeat (first | refine dN ?_ _ | refine dD ?_ | refine dA ?_ _));exact BK343.out) : P := h
theorem qq227 {P : Prop} (h : P := by (with_reducible repeat (first | refine dN ?_ _ | refine dD ?_ | refine dA ?_ _));exact BK329.out) : P := h
theorem qq228 {P : Prop} (h : P := by (with_reducible repeat (first | refine dN ?_ _ | refine dD ?_ | refine dA ?_ _));exact BK311.out) : P := h
theorem qq229 {P : Prop} (h : P := by (with_reducible repeat (first | refine dN ?_ _ | refine dD ?_ | refine dA ?_ _));exact BK299.out) : P := h
theorem qq230 {P : Prop} (h : P := by (with_reducible repeat (first | refine dN ?_ _ | refine dD ?_ | refine dA ?_ _));exact BK292.out) : P := h
theorem qq231 {P : Prop} (h : P := by (with_reducible repeat (first | refine dN ?_ _ | refine dD ?_ | refine dA ?_ _));exact BK280.out) : P := h
theorem qq232 {P : Prop} (h : P := by (with_reducible repeat (first | refine dN ?_ _ | refine dD ?_ | refine dA ?_ _));exact BK253.out) : P := h
theorem qq233 {P : Prop} (h : P := by (with_reducible repeat (first | refine dN ?_ _ | refine dD ?_ | refine dA ?_ _));exact BK248.out) : P := h
theorem qq234 {P : Prop} (h : P := by (with_reducible repeat (first | refine dN ?_ _ | refine dD ?_ | refine dA ?_ _));exact BK238.out) : P := h
theorem qq235 {P : Prop} (h : P := by (with_reducible repeat (first | refine dN ?_ _ | refine dD ?_ | refine dA ?_ _));exact BK226.out) : P := h
theorem qq236 {P : Prop} (h : P := by (with_reducible repeat (first | refine dN ?_ _ | refine dD ?_ | refine dA ?_ _));exact BK220.out) : P := h
theorem qq237 {P : Prop} (h : P := by (with_reducible repeat (first | refine dN ?_ _ | refine dD ?_ | refine dA ?_ _));exact BK175.out) : P := h
theorem qq238 {P : Prop} (h : P := by (with_reducible repeat (first | refine dN ?_ _ | refine dD ?_ | refine dA ?_ _));exact BK166.out) : P := h
theorem qq239 {P : Prop} (h : P := by (with_reducible repeat (first | refine dN ?_ _ | refine dD ?_ | refine dA ?_ _));exact BK152.out) : P := h
theorem qq240 {P : Prop} (h : P := by (with_reducible repeat (first | refine dN ?_ _ | refine dD ?_ | refine dA ?_ _));exact BK147.out) : P := h
theorem qq241 {P : Prop} (h : P := by (with_reducible repeat (first | refine dN ?_ _ | refine dD ?_ | refine dA ?_ _));exact BK133.out) : P := h
theorem qq242 {P : Prop} (h : P := by have:=HJ2.out;have:=HJ12.out;have:=HJ17.out;have:=HJ25.out;first | omega | exact Nat.le_refl _) : P := h
theorem qq243 {P : Prop} (h : P := by first | (simp only [putAll,Act.put,sA,s0,s1];done) | (simp only [putAll,Act.put,sA,s0,s1];rfl)) : P := h
theorem qq244 {P : Prop} (h : P := by first | rfl | (simp [errW_none,errW_some] <;> rfl) | (simp [*,errW_none,errW_some] <;> rfl)) : P := h
theorem qq245 {P : Prop} (h : P := by exact qq268) : P := h
theorem qq246 {P : Prop} (h : P := by exact qq275) : P := h
theorem qq247 {P : Prop} (h : P := by exact qq276) : P := h
theorem qq248 {P : Prop} (h : P := by exact qq288) : P := h
theorem qq249 {P : Prop} (h : P := by exact qq289) : P := h
theorem qq250 {P : Prop} (h : P := by (with_reducible repeat (first | apply kA | apply kN | apply kD));exact HO_556002.out) : P := h
theorem qq251 {P : Prop} (h : P := by (with_reducible repeat (first | apply kA | apply kN | apply kD));exact HO741.out) : P := h
theorem qq252 {P : Prop} (h : P := by (with_reducible repeat (first | apply kA | apply kN | apply kD));exact HO738.out) : P := h
theorem qq253 {P : Prop} (h : P := by (with_reducible repeat (first | apply kA | apply kN | apply kD));exact HO728.out) : P := h
theorem qq254 {P : Prop} (h : P := by (with_reducible repeat (first | apply kA | apply kN | apply kD));exact HO720.out) : P := h
theorem qq255 {P : Prop} (h : P := by (with_reducible repeat (first | apply kA | apply kN | apply kD));exact HO711.out) : P := h
theorem qq256 {P : Prop} (h : P := by (with_reducible repeat (first | apply kA | apply kN | apply kD));exact HO702.out) : P := h
theorem qq257 {P : Prop} (h : P := by (with_reducible repeat (first | apply kA | apply kN | apply kD));exact HO681.out) : P := h
theorem qq258 {P : Prop} (h : P := by (with_reducible repeat (first | apply kA | apply kN | apply kD));exact HO678.out) : P := h
theorem qq259 {P : Prop} (h : P := by (with_reducible repeat (first | apply kA | apply kN | apply kD));exact HO670.out) : P := h
theorem qq260 {P : Prop} (h : P := by (with_reducible repeat (first | apply kA | apply kN | apply kD));exact HO667.out) : P := h
theorem qq261 {P : Prop} (h : P := by (with_reducible repeat (first | apply kA | apply kN | apply kD));exact HO615.out) : P := h
theorem qq262 {P : Prop} (h : P := by (with_reducible repeat (first | apply kA | apply kN | apply kD));exact HO612.out) : P := h
theorem qq263 {P : Prop} (h : P := by (with_reducible repeat (first | apply kA | apply kN | apply kD));exact HO571.out) : P := h
theorem qq264 {P : Prop} (h : P := by (with_reducible repeat (first | apply kA | apply kN | apply kD));exact HO558.out) : P := h
theorem qq265 {P : Prop} (h : P := by (with_reducible repeat (first | apply kA | apply kN | apply kD));exact HO531.out) : P := h
theorem qq266 {P : Prop} (h : P := by (with_reducible repeat (first | apply kA | apply kN | apply kD));exact HO523.out) : P := h
theorem qq267 {P : Prop} (h : P := by (with_reducible repeat (first | apply kA | apply kN | apply kD));exact HO505.out) : P := h
theorem qq268 {P : Prop} (h : P := by (with_reducible repeat (first | apply kA | apply kN | apply kD));exact HO468.out) : P := h
theorem qq269 {P : Prop} (h : P := by (with_reducible repeat (first | apply kA | apply kN | apply kD));exact HO456.out) : P := h
theorem qq270 {P : Prop} (h : P := by (with_reducible repeat (first | apply kA | apply kN | apply kD));exact HO437.out) : P := h
theorem qq271 {P : Prop} (h : P := by (with_reducible repeat (first | apply kA | apply kN | apply kD));exact HO430.out) : P := h
theorem qq272 {P : Prop} (h : P := by (with_reducible repeat (first | apply kA | apply kN | apply kD));exact HO423.out) : P := h
theorem qq273 {P : Prop} (h : P := by (with_reducible repeat (first | apply kA | apply kN | apply kD));exact HO412.out) : P := h
theorem qq274 {P : Prop} (h : P := by (with_reducible repeat (first | apply kA | apply kN | apply kD));exact HO390.out) : P := h
theorem qq275 {P : Prop} (h : P := by (with_reducible repeat (first | apply kA | apply kN | apply kD));exact HO387.out) : P := h
theorem qq276 {P : Prop} (h : P := by (with_reducible repeat (first | apply kA | apply kN | apply kD));exact HO384.out) : P := h
theorem qq277 {P : Prop} (h : P := by (with_reducible repeat (first | apply kA | apply kN | apply kD));exact HO352.out) : P := h
theorem qq278 {P : Prop} (h : P := by (with_reducible repeat (first | apply kA | apply kN | apply kD));exact HO304.out) : P := h
theorem qq279 {P : Prop} (h : P := by (with_reducible repeat (first | apply kA | apply kN | apply kD));exact HO289.out) : P := h
theorem qq280 {P : Prop} (h : P := by (with_reducible repeat (first | apply kA | apply kN | apply kD));exact HO259.out) : P := h
theorem qq281 {P : Prop} (h : P := by (with_reducible repeat (first | apply kA | apply kN | apply kD));exact HO231.out) : P := h
theorem qq282 {P : Prop} (h : P := by (with_reducible repeat (first | apply kA | apply kN | apply kD));exact HO212.out) : P := h
theorem qq283 {P : Prop} (h : P := by (with_reducible repeat (first | apply kA | apply kN | apply kD));exact HO209.out) : P := h
theorem qq284 {P : Prop} (h : P := by (with_reducible repeat (first | apply kA | apply kN | apply kD));exact HO181.out) : P := h
theorem qq285 {P : Prop} (h : P := by have:=HJ5.out;have:=HJ18.out;have:=HJ50.out;first | omega | exact Nat.le_refl _) : P := h
theorem qq286 {P : Prop} (h : P := by have:=HJ2.out;have:=HJ12.out;have:=HJ17.out;first | omega | exact Nat.le_refl _) : P := h
theorem qq287 {P : Prop} (h : P := by (with_reducible repeat (first | apply kA | apply kN | apply kD));exact HO_8.out) : P := h
theorem qq288 {P : Prop} (h : P := by (with_reducible repeat (first | apply kA | apply kN | apply kD));exact HO_7.out) : P := h
theorem qq289 {P : Prop} (h : P := by (with_reducible repeat (first | apply kA | apply kN | apply kD));exact HO_5.out) : P := h
theorem qq290 {P : Prop} (h : P := by (with_reducible repeat (first | apply kA | apply kN | apply kD));exact HO_3.out) : P := h
theorem qq291 {P : Prop} (h : P := by have:=HJ5.out;have:=HJ18.out;first | omega | exact Nat.le_refl _) : P := h
theorem qq292 {P : Prop} (h : P := by have:=HJ2.out;have:=HJ12.out;first | omega | exact Nat.le_refl _) : P := h
theorem qq293 {P : Prop} (h : P := by exact far_slice (IsS141.own_neQ HI0.out HO600.out (by decide))) : P := h
theorem qq294 {P : Prop} (h : P := by repeat (first | exact Drawn0.refl _ | apply Drawn0.step)) : P := h
theorem qq295 {P : Prop} (h : P := by have:=HJ5.out;first | omega | exact Nat.le_refl _) : P := h
theorem qq296 {P : Prop} (h : P := by first | (with_reducible assumption) | assumption) : P := h
theorem qq297 {P : Prop} (h : P := by have:=HK1.out;have:=HK2.out;have:=HK3.out;omega) : P := h
theorem qq298 {P : Prop} (h : P := by first | rfl | (simp;done) | (simp [*];done)) : P := h
theorem qq299 {P : Prop} (h : P := by first | (go_simp;done) | (go_simp;rfl)) : P := h
theorem qq300 {P : Prop} (h : P := by simp only [putAll,Act.put,sA,s0,s1]) : P := h
theorem qq301 {P : Prop} (h : P := by first | omega | exact Nat.le_refl _) : P := h
theorem qq302 {P : Prop} (h : P := by exact (Kd.Q_reads' HO600.out).2.1) : P := h
theorem qq303 {P : Prop} (h : P := by exact (Kd.V_reads' HO_1.out).2.1) : P := h
theorem qq304 {P : Prop} (h : P := by exact (fun _ _ => trivial)) : P := h
theorem qq305 {P : Prop} (h : P := by have:=LMc39.out;omega) : P := h
theorem qq306 {P : Prop} (h : P := by exact (Reps.none _ _)) : P := h
theorem qq307 {P : Prop} (h : P := by have:=HK1.out;omega) : P := h
theorem qq308 {P : Prop} (h : P := by have:=HJ3.out;omega) : P := h
theorem qq309 {P : Prop} (h : P := by exact HC0_2.out) : P := h
end Go.Proofs.Ytcbkknpmeknppaa.PFnWeathers
