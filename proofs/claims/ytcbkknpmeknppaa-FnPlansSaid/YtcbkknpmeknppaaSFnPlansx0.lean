/- Contracts of functions that the law FnPlans reaches, for its row: lines that the kit's printer wrote for this claim, set shorter by a program of this session (own.py), and what fell in Lean proved anew. Lean checks them. -/
import Derived.Test.YtcbkknpmeknppaaProg
import Derived.Below
import Derived.Deep.Draws
import Derived.Deep.AppendLies
import Derived.Maps.AppendAt
import Derived.OwnWalk
import Derived.Laws.BytesArg
import Derived.Laws.MakeOwn
import Derived.Laws.OwnMore
import Derived.Deep.OwnRows
import Derived.Tactics
import Derived.Lib.ConvBytes
import Derived.Laws.Slices
import Derived.WalkKit
import Derived.KernelRfl
import Derived.RowKit3
import Derived.Deep.LoopGhost
import Derived.Deep.QuietTactic
import Derived.BigQuiet
import Derived.WideLaws
import Derived.Deep.DeepCutAuto
import Derived.Deep.CutBlock
import Derived.Deep.RegionHeld3
import Derived.Laws.Rows
import Derived.Lib.AppendStr
import Derived.ArgAppend
import Derived.Laws.IdiomCopy
import Derived.OrdersHeld
import Derived.Laws.BitsLemmas
import Derived.RowKit
import Derived.Test.YtcbkknpmeknppaaWWords
import Derived.Test.YtcbkknpmeknppaaWLast
import Derived.Test.YtcbkknpmeknppaaWTab
import Derived.Test.YtcbkknpmeknppaaWFour
import Derived.Test.YtcbkknpmeknppaaWQPut
import Derived.Test.YtcbkknpmeknppaaWApart
import Derived.Test.YtcbkknpmeknppaaWArr
import Derived.Test.YtcbkknpmeknppaaWZeros
import Derived.Test.YtcbkknpmeknppaaWFoot
import Derived.Test.YtcbkknpmeknppaaWKept
import Derived.Test.YtcbkknpmeknppaaWShare
import Derived.Test.YtcbkknpmeknppaaWN
import Derived.Test.YtcbkknpmeknppaaWFootNe
import Derived.Test.YtcbkknpmeknppaaWAt
import Derived.Test.YtcbkknpmeknppaaWEqStruct
import Derived.Test.YtcbkknpmeknppaaWRepsOne
import Derived.Test.YtcbkknpmeknppaaWInv
import Derived.Test.YtcbkknpmeknppaaWInvWords
import Derived.Test.YtcbkknpmeknppaaWGuard
import Derived.Test.YtcbkknpmeknppaaWNEv
import Derived.Test.YtcbkknpmeknppaaWMore
namespace Go.Proofs.Ytcbkknpmeknppaa.PFnPlans
open Go.RowKit Go.Proofs.YtcbkknpmeknppaaW.PrintWords Go.Proofs.YtcbkknpmeknppaaW.PrintLast Go.Proofs.YtcbkknpmeknppaaW.PrintMore
attribute [local go_sem] max2_int min2_int max_two min_two max_three min_three max_four min_four   -- for this text's walks alone
set_option linter.unusedVariables false
set_option linter.unusedSimpArgs false



theorem ct {w w' : World} {a : Addr} {v : Value} (h : Below w.heap.size w w') (e : w.cell? a = some v) : w'.cell? a = some v := (h.cell (World.block_lt_of_cell? w _ e)).trans e
theorem sA {α : Type} (l : List α) (i : Nat) (a : α) : l.toArray.setIfInBounds i a = (l.set i a).toArray := List.setIfInBounds_toArray ..
theorem s0 {α : Type} {x a : α} {xs : List α} : (x :: xs).set 0 a = a :: xs := rfl
theorem s1 {α : Type} {n : Nat} {x a : α} {xs : List α} : (x :: xs).set (n + 1) a = x :: xs.set n a := rfl
abbrev am {P : Prop} (h : P) : Aside0 P := ⟨h⟩
abbrev bl := @World.block_lt_of_cell?
abbrev bA := @below_alloc
abbrev bN := @pw_below_drewN
abbrev bD := @below_drew1
abbrev kA := @Kd.R_alloc
abbrev kN := @Kd.R_drewN
abbrev kD := @Kd.R_drew
abbrev cA := @Kd.C_alloc
abbrev cN := @Kd.C_drewN
abbrev cD := @Kd.C_drew
abbrev dN := @blk_drewN
abbrev dD := @blk_drew
abbrev dA := @blk_alloc
abbrev bS := @Option.bind_eq_some_iff
abbrev odt := @of_decide_eq_true
theorem bcl2 {w : World} {g : Nat} {t : TypeId} {x0 x1 : Value} (h : w.heap[g]? = some (.cells #[x0, x1] t (0, 0))) : w.cell? ⟨g, 0, none⟩ = some x0 ∧ w.cell? ⟨g, 1, none⟩ = some x1 ∧ w.frozen? ⟨g, 0, none⟩ = false ∧ w.frozen? ⟨g, 1, none⟩ = false := ⟨(blk_cell h 0).trans rfl, (blk_cell h 1).trans rfl, blk_frozen h 0, blk_frozen h 1⟩
theorem bcl3 {w : World} {g : Nat} {t : TypeId} {x0 x1 x2 : Value} (h : w.heap[g]? = some (.cells #[x0, x1, x2] t (0, 0))) : w.cell? ⟨g, 0, none⟩ = some x0 ∧ w.cell? ⟨g, 1, none⟩ = some x1 ∧ w.cell? ⟨g, 2, none⟩ = some x2 ∧ w.frozen? ⟨g, 0, none⟩ = false ∧ w.frozen? ⟨g, 1, none⟩ = false ∧ w.frozen? ⟨g, 2, none⟩ = false := ⟨(blk_cell h 0).trans rfl, (blk_cell h 1).trans rfl, (blk_cell h 2).trans rfl, blk_frozen h 0, blk_frozen h 1, blk_frozen h 2⟩
theorem bcl4 {w : World} {g : Nat} {t : TypeId} {x0 x1 x2 x3 : Value} (h : w.heap[g]? = some (.cells #[x0, x1, x2, x3] t (0, 0))) : w.cell? ⟨g, 0, none⟩ = some x0 ∧ w.cell? ⟨g, 1, none⟩ = some x1 ∧ w.cell? ⟨g, 2, none⟩ = some x2 ∧ w.cell? ⟨g, 3, none⟩ = some x3 ∧ w.frozen? ⟨g, 0, none⟩ = false ∧ w.frozen? ⟨g, 1, none⟩ = false ∧ w.frozen? ⟨g, 2, none⟩ = false ∧ w.frozen? ⟨g, 3, none⟩ = false := ⟨(blk_cell h 0).trans rfl, (blk_cell h 1).trans rfl, (blk_cell h 2).trans rfl, (blk_cell h 3).trans rfl, blk_frozen h 0, blk_frozen h 1, blk_frozen h 2, blk_frozen h 3⟩
theorem pV {P : Program} {ops : Array Oper} {Q : Exit → Act → World → Prop} {md : Region.Mode} {S : World → Prop} {ds : List Nat} {i : Nat} {N : Option Tmp} {oi : Oper} {v : Value} {fuel : Nat} {l : Array Bool} {a : Act} {w : World} {a' : Act} (l' : Array Bool) (hi : ops[i]? = some oi) (hN : oi.dst = N) (hc : anyB md ops l l' i = true) (h : wpAnyLast P md ops Q S ds fuel l' a' w) (hQ : ∀ c a w, Q (.panic c) (a.put oi.dst v) w → Q (.panic c) a w := by exact fun _ _ _ h => h) (hw : Region.wanted oi (yielded ops a.tmps) = true := by rfl) (hv : ∀ w', (execOp a.eval oi).run P w' = .ok (.value v) w' := by intro w'; go_simp; (with_reducible rfl)) (ha : a.put N v = a' := by simp only [Act.put, sA, s0, s1, i64_w, i32_w]; rfl) : wpAnyLast P md ops Q S ds (fuel + 1) l a w := pure_ l' hi hN hc hQ (Or.inl ⟨hw, hv⟩) ha h
theorem pW {P : Program} {ops : Array Oper} {Q : Exit → Act → World → Prop} {md : Region.Mode} {S : World → Prop} {ds : List Nat} {i : Nat} {N : Option Tmp} {oi : Oper} {fuel : Nat} {l : Array Bool} {a : Act} {w : World} {a' : Act} (l' : Array Bool) (hi : ops[i]? = some oi) (hN : oi.dst = N) (hc : anyB md ops l l' i = true) (h : wpAnyLast P md ops Q S ds fuel l' a' w) (hQ : ∀ c a w, Q (.panic c) (a.put oi.dst undef) w → Q (.panic c) a w := by exact fun _ _ _ h => h) (hw : Region.wanted oi (yielded ops a.tmps) = false := by rfl) (ha : a.put N undef = a' := by simp only [Act.put, sA, s0, s1, i64_w, i32_w]; rfl) : wpAnyLast P md ops Q S ds (fuel + 1) l a w := pure_ l' hi hN hc hQ (Or.inr ⟨hw, rfl⟩) ha h
theorem tV2 {P : Program} {ops : Array Oper} {Q : Exit → Act → World → Prop} {md : Region.Mode} {S : World → Prop} {ds : List Nat} {i : Nat} {N : Option Tmp} {oi : Oper} {v : Value} {fuel : Nat} {l : Array Bool} {a : Act} {w : World} {a' : Act} (l' : Array Bool) (hi : ops[i]? = some oi) (hN : oi.dst = N) (hc : takeB md ops ds l l' i = true) (hS : S w) (h : wpAnyLast P md ops Q S ds fuel l' a' w) (hQ : ∀ c a w, Q (.panic c) (a.put oi.dst v) w → Q (.panic c) a w := by exact fun _ _ _ h => h) (hw : Region.wanted oi (yielded ops a.tmps) = true := by rfl) (hv : ∀ w', S w' → (execOp a.eval oi).run P w' = .ok (.value v) w' := by rintro w' ⟨s0, s1⟩; go_simp; with_reducible rfl) (ha : a.put N v = a' := by simp only [Act.put, sA, s0, s1, i64_w, i32_w]; rfl) : wpAnyLast P md ops Q S ds (fuel + 1) l a w := take_ l' hi hN hc hQ (Or.inl ⟨hw, hv⟩) hS ha h
theorem tV3 {P : Program} {ops : Array Oper} {Q : Exit → Act → World → Prop} {md : Region.Mode} {S : World → Prop} {ds : List Nat} {i : Nat} {N : Option Tmp} {oi : Oper} {v : Value} {fuel : Nat} {l : Array Bool} {a : Act} {w : World} {a' : Act} (l' : Array Bool) (hi : ops[i]? = some oi) (hN : oi.dst = N) (hc : takeB md ops ds l l' i = true) (hS : S w) (h : wpAnyLast P md ops Q S ds fuel l' a' w) (hQ : ∀ c a w, Q (.panic c) (a.put oi.dst v) w → Q (.panic c) a w := by exact fun _ _ _ h => h) (hw : Region.wanted oi (yielded ops a.tmps) = true := by rfl) (hv : ∀ w', S w' → (execOp a.eval oi).run P w' = .ok (.value v) w' := by rintro w' ⟨s0, s1, s2⟩; go_simp; with_reducible rfl) (ha : a.put N v = a' := by simp only [Act.put, sA, s0, s1, i64_w, i32_w]; rfl) : wpAnyLast P md ops Q S ds (fuel + 1) l a w := take_ l' hi hN hc hQ (Or.inl ⟨hw, hv⟩) hS ha h
theorem tV4 {P : Program} {ops : Array Oper} {Q : Exit → Act → World → Prop} {md : Region.Mode} {S : World → Prop} {ds : List Nat} {i : Nat} {N : Option Tmp} {oi : Oper} {v : Value} {fuel : Nat} {l : Array Bool} {a : Act} {w : World} {a' : Act} (l' : Array Bool) (hi : ops[i]? = some oi) (hN : oi.dst = N) (hc : takeB md ops ds l l' i = true) (hS : S w) (h : wpAnyLast P md ops Q S ds fuel l' a' w) (hQ : ∀ c a w, Q (.panic c) (a.put oi.dst v) w → Q (.panic c) a w := by exact fun _ _ _ h => h) (hw : Region.wanted oi (yielded ops a.tmps) = true := by rfl) (hv : ∀ w', S w' → (execOp a.eval oi).run P w' = .ok (.value v) w' := by rintro w' ⟨s0, s1, s2, s3⟩; go_simp; with_reducible rfl) (ha : a.put N v = a' := by simp only [Act.put, sA, s0, s1, i64_w, i32_w]; rfl) : wpAnyLast P md ops Q S ds (fuel + 1) l a w := take_ l' hi hN hc hQ (Or.inl ⟨hw, hv⟩) hS ha h
theorem tV5 {P : Program} {ops : Array Oper} {Q : Exit → Act → World → Prop} {md : Region.Mode} {S : World → Prop} {ds : List Nat} {i : Nat} {N : Option Tmp} {oi : Oper} {v : Value} {fuel : Nat} {l : Array Bool} {a : Act} {w : World} {a' : Act} (l' : Array Bool) (hi : ops[i]? = some oi) (hN : oi.dst = N) (hc : takeB md ops ds l l' i = true) (hS : S w) (h : wpAnyLast P md ops Q S ds fuel l' a' w) (hQ : ∀ c a w, Q (.panic c) (a.put oi.dst v) w → Q (.panic c) a w := by exact fun _ _ _ h => h) (hw : Region.wanted oi (yielded ops a.tmps) = true := by rfl) (hv : ∀ w', S w' → (execOp a.eval oi).run P w' = .ok (.value v) w' := by rintro w' ⟨s0, s1, s2, s3, s4⟩; go_simp; with_reducible rfl) (ha : a.put N v = a' := by simp only [Act.put, sA, s0, s1, i64_w, i32_w]; rfl) : wpAnyLast P md ops Q S ds (fuel + 1) l a w := take_ l' hi hN hc hQ (Or.inl ⟨hw, hv⟩) hS ha h
theorem tV6 {P : Program} {ops : Array Oper} {Q : Exit → Act → World → Prop} {md : Region.Mode} {S : World → Prop} {ds : List Nat} {i : Nat} {N : Option Tmp} {oi : Oper} {v : Value} {fuel : Nat} {l : Array Bool} {a : Act} {w : World} {a' : Act} (l' : Array Bool) (hi : ops[i]? = some oi) (hN : oi.dst = N) (hc : takeB md ops ds l l' i = true) (hS : S w) (h : wpAnyLast P md ops Q S ds fuel l' a' w) (hQ : ∀ c a w, Q (.panic c) (a.put oi.dst v) w → Q (.panic c) a w := by exact fun _ _ _ h => h) (hw : Region.wanted oi (yielded ops a.tmps) = true := by rfl) (hv : ∀ w', S w' → (execOp a.eval oi).run P w' = .ok (.value v) w' := by rintro w' ⟨s0, s1, s2, s3, s4, s5⟩; go_simp; with_reducible rfl) (ha : a.put N v = a' := by simp only [Act.put, sA, s0, s1, i64_w, i32_w]; rfl) : wpAnyLast P md ops Q S ds (fuel + 1) l a w := take_ l' hi hN hc hQ (Or.inl ⟨hw, hv⟩) hS ha h
theorem tV7 {P : Program} {ops : Array Oper} {Q : Exit → Act → World → Prop} {md : Region.Mode} {S : World → Prop} {ds : List Nat} {i : Nat} {N : Option Tmp} {oi : Oper} {v : Value} {fuel : Nat} {l : Array Bool} {a : Act} {w : World} {a' : Act} (l' : Array Bool) (hi : ops[i]? = some oi) (hN : oi.dst = N) (hc : takeB md ops ds l l' i = true) (hS : S w) (h : wpAnyLast P md ops Q S ds fuel l' a' w) (hQ : ∀ c a w, Q (.panic c) (a.put oi.dst v) w → Q (.panic c) a w := by exact fun _ _ _ h => h) (hw : Region.wanted oi (yielded ops a.tmps) = true := by rfl) (hv : ∀ w', S w' → (execOp a.eval oi).run P w' = .ok (.value v) w' := by rintro w' ⟨s0, s1, s2, s3, s4, s5, s6⟩; go_simp; with_reducible rfl) (ha : a.put N v = a' := by simp only [Act.put, sA, s0, s1, i64_w, i32_w]; rfl) : wpAnyLast P md ops Q S ds (fuel + 1) l a w := take_ l' hi hN hc hQ (Or.inl ⟨hw, hv⟩) hS ha h
theorem tV8 {P : Program} {ops : Array Oper} {Q : Exit → Act → World → Prop} {md : Region.Mode} {S : World → Prop} {ds : List Nat} {i : Nat} {N : Option Tmp} {oi : Oper} {v : Value} {fuel : Nat} {l : Array Bool} {a : Act} {w : World} {a' : Act} (l' : Array Bool) (hi : ops[i]? = some oi) (hN : oi.dst = N) (hc : takeB md ops ds l l' i = true) (hS : S w) (h : wpAnyLast P md ops Q S ds fuel l' a' w) (hQ : ∀ c a w, Q (.panic c) (a.put oi.dst v) w → Q (.panic c) a w := by exact fun _ _ _ h => h) (hw : Region.wanted oi (yielded ops a.tmps) = true := by rfl) (hv : ∀ w', S w' → (execOp a.eval oi).run P w' = .ok (.value v) w' := by rintro w' ⟨s0, s1, s2, s3, s4, s5, s6, s7⟩; go_simp; with_reducible rfl) (ha : a.put N v = a' := by simp only [Act.put, sA, s0, s1, i64_w, i32_w]; rfl) : wpAnyLast P md ops Q S ds (fuel + 1) l a w := take_ l' hi hN hc hQ (Or.inl ⟨hw, hv⟩) hS ha h
theorem qT {P : Prop} (h : P := by exact any_of HT_.out (by kernel_rfl)) : P := h
abbrev Y : Bool := true
abbrev Z : Bool := false
def errW : Option Int → Value
 | none => .nilIface
 | some c => .iface 0 (.int .i64 c)
theorem errW_none : errW none = .nilIface := rfl
theorem errW_some (c : Int) : errW (some c) = .iface 0 (.int .i64 c) := rfl

theorem info3 : (Try.prog.info? 3).map (fun i => (i.zero, i.size, i.bytes)) = some (some (.int .i64 0), 1, 8) := by kernel_rfl
theorem info4 : (Try.prog.info? 4).map (fun i => (i.zero, i.size, i.bytes)) = some (some (.bool false), 1, 1) := by kernel_rfl
theorem info76 : (Try.prog.info? 76).map (fun i => (i.zero, i.size, i.bytes)) = some (some (.agg #[(.int .i64 0), (.int .i64 0)]), 2, 16) := by kernel_rfl
theorem info112 : (Try.prog.info? 112).map (fun i => (i.zero, i.size, i.bytes)) = some (some (.agg #[(.int .i64 0), (.int .i64 0), (.int .i64 0), (.bool false)]), 4, 32) := by kernel_rfl
-- the values' own types
/-! #### struct type 112 -/
structure S112 where
 f0 : Int
 f1 : Int
 f2 : Int
 f3 : Bool
def z112 : S112 := ⟨(0 : Int), (0 : Int), (0 : Int), false⟩
def k112 : Kd S112 := Kd.iso (Kd.pair (Kd.int .i64) (Kd.pair (Kd.int .i64) (Kd.pair (Kd.int .i64) Kd.bool))) (fun x : S112 => (x.f0, x.f1, x.f2, x.f3))
theorem k112_open {w : World} {x : S112} {cs : List Value} (h : k112.K w x cs) : cs = [.int .i64 x.f0, .int .i64 x.f1, .int .i64 x.f2, .bool x.f3] := by
 obtain ⟨_,_,rfl,rfl,⟨_,_,rfl,rfl,⟨_,_,rfl,rfl,rfl⟩⟩⟩:=h
 exact rfl
theorem k112_mkM (w : World) (base : Nat) (ok : Nat → Prop) (x : S112)  : k112.M w base ok x [.int .i64 x.f0, .int .i64 x.f1, .int .i64 x.f2, .bool x.f3] := ⟨[.int .i64 x.f0], [.int .i64 x.f1, .int .i64 x.f2, .bool x.f3], rfl, rfl, ⟨[.int .i64 x.f1], [.int .i64 x.f2, .bool x.f3], rfl, rfl, ⟨[.int .i64 x.f2], [.bool x.f3], rfl, rfl, rfl⟩⟩⟩
def rd_T112 (xs : List S112) (i : Int) : S112 := xs.getD i.toNat z112
theorem at_T112 {w : World} {A : Option Addr} {n : Nat} {xs : List S112} (h : Kd.C k112 w A n xs) (i : Int) (h0 : 0 ≤ i) (h1 : i < n) : ∃ ad , A = some ad ∧ w.cell? (ad.add (i.toNat * 4)) = some (.int .i64 (rd_T112 xs i).f0) ∧ w.cell? ⟨(ad.add (i.toNat * 4)).block, (ad.add (i.toNat * 4)).off + 1, none⟩ = some (.int .i64 (rd_T112 xs i).f1) ∧ w.cell? ⟨(ad.add (i.toNat * 4)).block, (ad.add (i.toNat * 4)).off + 2, none⟩ = some (.int .i64 (rd_T112 xs i).f2) ∧ w.cell? ⟨(ad.add (i.toNat * 4)).block, (ad.add (i.toNat * 4)).off + 3, none⟩ = some (.bool (rd_T112 xs i).f3) := by
 obtain ⟨ad,c,e,_,hK,hc0⟩:=Kd.C_get h z112 i h0 h1
 have hc : ∀ j u,c[j]? = some u → w.cell? (ad.add (i.toNat * 4 + j)) = some u:=hc0
 obtain rfl:=k112_open hK
 exact ⟨ad,e,hc 0 _ rfl,by rw [← add_field _ _ 1 (by omega)];exact hc 1 _ rfl,by rw [← add_field _ _ 2 (by omega)];exact hc 2 _ rfl,by rw [← add_field _ _ 3 (by omega)];exact hc 3 _ rfl⟩

/-! #### struct type 76 -/
structure S76 where
 f0 : Int
 f1 : Int
def z76 : S76 := ⟨(0 : Int), (0 : Int)⟩
def k76 : Kd S76 := Kd.iso (Kd.pair (Kd.int .i64) (Kd.int .i64)) (fun x : S76 => (x.f0, x.f1))
theorem k76_open {w : World} {x : S76} {cs : List Value} (h : k76.K w x cs) : cs = [.int .i64 x.f0, .int .i64 x.f1] := by
 obtain ⟨_,_,rfl,rfl,rfl⟩:=h
 exact rfl
theorem k76_openM {w : World} {base : Nat} {ok : Nat → Prop} {x : S76} {cs : List Value} (h : k76.M w base ok x cs) : cs = [.int .i64 x.f0, .int .i64 x.f1] := by
 obtain ⟨_,_,rfl,rfl,rfl⟩:=h
 exact rfl
theorem k76_mkM (w : World) (base : Nat) (ok : Nat → Prop) (x : S76)  : k76.M w base ok x [.int .i64 x.f0, .int .i64 x.f1] := ⟨[.int .i64 x.f0], [.int .i64 x.f1], rfl, rfl, rfl⟩
def rd_T76 (xs : List S76) (i : Int) : S76 := xs.getD i.toNat z76
theorem at_T76 {w : World} {A : Option Addr} {n : Nat} {xs : List S76} (h : Kd.C k76 w A n xs) (i : Int) (h0 : 0 ≤ i) (h1 : i < n) : ∃ ad , A = some ad ∧ w.cell? (ad.add (i.toNat * 2)) = some (.int .i64 (rd_T76 xs i).f0) ∧ w.cell? ⟨(ad.add (i.toNat * 2)).block, (ad.add (i.toNat * 2)).off + 1, none⟩ = some (.int .i64 (rd_T76 xs i).f1) := by
 obtain ⟨ad,c,e,_,hK,hc0⟩:=Kd.C_get h z76 i h0 h1
 have hc : ∀ j u,c[j]? = some u → w.cell? (ad.add (i.toNat * 2 + j)) = some u:=hc0
 obtain rfl:=k76_open hK
 exact ⟨ad,e,hc 0 _ rfl,by rw [← add_field _ _ 1 (by omega)];exact hc 1 _ rfl⟩

def rd_L5 (xs : List (List Int)) (i : Int) : (List Int) := xs.getD i.toNat ([] : List Int)
theorem qq1 {P : Prop} (h : P := by (with_reducible repeat (first | refine dN ?_ _ | refine dD ?_ | refine dA ?_ _));refine blk_far ?_ NB687_689.out _;(with_reducible repeat (first | refine dN ?_ _ | refine dD ?_ | refine dA ?_ _));refine blk_far ?_ NB687_689.out _;(with_reducible repeat (first | refine dN ?_ _ | refine dD ?_ | refine dA ?_ _));refine blk_far ?_ NB687_689.out _;(with_reducible repeat (first | refine dN ?_ _ | refine dD ?_ | refine dA ?_ _));refine blk_far ?_ NB687_689.out _;(with_reducible repeat (first | refine dN ?_ _ | refine dD ?_ | refine dA ?_ _));refine blk_far ?_ NB687_688.out _;(with_reducible repeat (first | refine dN ?_ _ | refine dD ?_ | refine dA ?_ _));refine blk_far ?_ NB687_688.out _;(with_reducible repeat (first | refine dN ?_ _ | refine dD ?_ | refine dA ?_ _));refine blk_put (cs:=#[.int .i64 t668,.int .i64 t669,.slice none 0 0]) ?_ 2 _ rfl;(with_reducible repeat (first | refine dN ?_ _ | refine dD ?_ | refine dA ?_ _));refine blk_put (cs:=#[.int .i64 t668,.int .i64 0,.slice none 0 0]) ?_ 1 _ rfl;(with_reducible repeat (first | refine dN ?_ _ | refine dD ?_ | refine dA ?_ _));refine blk_put (cs:=#[.int .i64 0,.int .i64 0,.slice none 0 0]) ?_ 0 _ rfl;(with_reducible repeat (first | refine dN ?_ _ | refine dD ?_ | refine dA ?_ _));exact BK687.out) : P := h
theorem qq2 {P : Prop} (h : P := by (with_reducible repeat (first | refine dN ?_ _ | refine dD ?_ | refine dA ?_ _));refine blk_far ?_ NB688_689.out _;(with_reducible repeat (first | refine dN ?_ _ | refine dD ?_ | refine dA ?_ _));refine blk_far ?_ NB688_689.out _;(with_reducible repeat (first | refine dN ?_ _ | refine dD ?_ | refine dA ?_ _));refine blk_far ?_ NB688_689.out _;(with_reducible repeat (first | refine dN ?_ _ | refine dD ?_ | refine dA ?_ _));refine blk_far ?_ NB688_689.out _;(with_reducible repeat (first | refine dN ?_ _ | refine dD ?_ | refine dA ?_ _));refine blk_put (cs:=#[.int .i64 t677,.int .i64 0]) ?_ 1 _ rfl;(with_reducible repeat (first | refine dN ?_ _ | refine dD ?_ | refine dA ?_ _));refine blk_put (cs:=#[.int .i64 0,.int .i64 0]) ?_ 0 _ rfl;(with_reducible repeat (first | refine dN ?_ _ | refine dD ?_ | refine dA ?_ _));refine blk_far ?_ NB688_687.out _;(with_reducible repeat (first | refine dN ?_ _ | refine dD ?_ | refine dA ?_ _));refine blk_far ?_ NB688_687.out _;(with_reducible repeat (first | refine dN ?_ _ | refine dD ?_ | refine dA ?_ _));refine blk_far ?_ NB688_687.out _;(with_reducible repeat (first | refine dN ?_ _ | refine dD ?_ | refine dA ?_ _));exact BK688.out) : P := h
theorem qq3 {P : Prop} (h : P := by (with_reducible repeat (first | refine dN ?_ _ | refine dD ?_ | refine dA ?_ _));refine blk_far ?_ NB647_689.out _;(with_reducible repeat (first | refine dN ?_ _ | refine dD ?_ | refine dA ?_ _));refine blk_far ?_ NB647_689.out _;(with_reducible repeat (first | refine dN ?_ _ | refine dD ?_ | refine dA ?_ _));refine blk_far ?_ NB647_689.out _;(with_reducible repeat (first | refine dN ?_ _ | refine dD ?_ | refine dA ?_ _));refine blk_far ?_ NB647_689.out _;(with_reducible repeat (first | refine dN ?_ _ | refine dD ?_ | refine dA ?_ _));refine blk_far ?_ NB647_688.out _;(with_reducible repeat (first | refine dN ?_ _ | refine dD ?_ | refine dA ?_ _));refine blk_far ?_ NB647_688.out _;(with_reducible repeat (first | refine dN ?_ _ | refine dD ?_ | refine dA ?_ _));refine blk_far ?_ NB647_687.out _;(with_reducible repeat (first | refine dN ?_ _ | refine dD ?_ | refine dA ?_ _));refine blk_far ?_ NB647_687.out _;(with_reducible repeat (first | refine dN ?_ _ | refine dD ?_ | refine dA ?_ _));refine blk_far ?_ NB647_687.out _;(with_reducible repeat (first | refine dN ?_ _ | refine dD ?_ | refine dA ?_ _));exact BK647.out) : P := h
theorem qq4 {P : Prop} (h : P := by (with_reducible repeat (first | apply Kd.Q_alloc | apply Kd.Q_drewN | apply Kd.Q_drew));exact (Kd.Q_mono (Kd.Q_mono (Kd.Q_mono (Kd.Q_far (p:=⟨gb689,3,none⟩) (Kd.Q_far (p:=⟨gb689,2,none⟩) (Kd.Q_far (p:=⟨gb689,1,none⟩) (Kd.Q_far (p:=⟨gb689,0,none⟩) (Kd.Q_far (p:=⟨gb688,1,none⟩) (Kd.Q_far (p:=⟨gb688,0,none⟩) (Kd.Q_far (p:=⟨gb687,2,none⟩) (Kd.Q_far (p:=⟨gb687,1,none⟩) (Kd.Q_far (p:=⟨gb687,0,none⟩) (Kd.Q_types (Kd.Q_types (Kd.Q_types HO672.out BK687.out (by decide)) BK688.out (by decide)) BK689.out (by decide)) (fun _ hk => hk.1.1.2) (.int .i64 t668)) (fun _ hk => hk.1.1.2) (.int .i64 t669)) (fun _ hk => hk.1.1.2) (.slice Ao106 t670.length co106)) (fun _ hk => hk.1.2) (.int .i64 t677)) (fun _ hk => hk.1.2) (.int .i64 t678)) (fun _ hk => hk.2) (.int .i64 t679)) (fun _ hk => hk.2) (.int .i64 t680)) (fun _ hk => hk.2) (.slice Ao112 t681.length co112)) (fun _ hk => hk.2) (.slice Ao113 t684.length co113)) (fun _ h_ => h_.1)) (fun _ h_ => h_.1)) (fun _ h_ => h_.1))) : P := h
theorem qq5 {P : Prop} (h : P := by (with_reducible repeat (first | apply Kd.Q_alloc | apply Kd.Q_drewN | apply Kd.Q_drew));exact (Kd.Q_mono (Kd.Q_mono (Kd.Q_mono (Kd.Q_far (p:=⟨gb689,3,none⟩) (Kd.Q_far (p:=⟨gb689,2,none⟩) (Kd.Q_far (p:=⟨gb689,1,none⟩) (Kd.Q_far (p:=⟨gb689,0,none⟩) (Kd.Q_far (p:=⟨gb688,1,none⟩) (Kd.Q_far (p:=⟨gb688,0,none⟩) (Kd.Q_far (p:=⟨gb687,2,none⟩) (Kd.Q_far (p:=⟨gb687,1,none⟩) (Kd.Q_far (p:=⟨gb687,0,none⟩) (Kd.Q_types (Kd.Q_types (Kd.Q_types HO672.out BK687.out (by decide)) BK688.out (by decide)) BK689.out (by decide)) (fun _ hk => hk.1.1.2) (.int .i64 t668)) (fun _ hk => hk.1.1.2) (.int .i64 t669)) (fun _ hk => hk.1.1.2) (.slice Ao85 t670.length co85)) (fun _ hk => hk.1.2) (.int .i64 t677)) (fun _ hk => hk.1.2) (.int .i64 t678)) (fun _ hk => hk.2) (.int .i64 t679)) (fun _ hk => hk.2) (.int .i64 t680)) (fun _ hk => hk.2) (.slice Ao91 t681.length co91)) (fun _ hk => hk.2) (.slice Ao92 t684.length co92)) (fun _ h_ => h_.1)) (fun _ h_ => h_.1)) (fun _ h_ => h_.1))) : P := h
theorem qq6 {P : Prop} (h : P := by (with_reducible repeat (first | apply kA | apply kN | apply kD));exact (Kd.R_mono (Kd.R_mono (Kd.R_mono (Kd.R_far (p:=⟨gb689,3,none⟩) (Kd.R_far (p:=⟨gb689,2,none⟩) (Kd.R_far (p:=⟨gb689,1,none⟩) (Kd.R_far (p:=⟨gb689,0,none⟩) (Kd.R_far (p:=⟨gb688,1,none⟩) (Kd.R_far (p:=⟨gb688,0,none⟩) (Kd.R_far (p:=⟨gb687,2,none⟩) (Kd.R_far (p:=⟨gb687,1,none⟩) (Kd.R_far (p:=⟨gb687,0,none⟩) (Kd.R_types (Kd.R_types (Kd.R_types HO686.out BK687.out (by decide)) BK688.out (by decide)) BK689.out (by decide)) (fun _ hk => hk.1.1.2) (.int .i64 t668)) (fun _ hk => hk.1.1.2) (.int .i64 t669)) (fun _ hk => hk.1.1.2) (.slice Ao106 t670.length co106)) (fun _ hk => hk.1.2) (.int .i64 t677)) (fun _ hk => hk.1.2) (.int .i64 t678)) (fun _ hk => hk.2) (.int .i64 t679)) (fun _ hk => hk.2) (.int .i64 t680)) (fun _ hk => hk.2) (.slice Ao112 t681.length co112)) (fun _ hk => hk.2) (.slice Ao113 t684.length co113)) (fun _ h_ => h_.1)) (fun _ h_ => h_.1)) (fun _ h_ => h_.1))) : P := h
theorem qq7 {P : Prop} (h : P := by (with_reducible repeat (first | apply kA | apply kN | apply kD));exact (Kd.R_mono (Kd.R_mono (Kd.R_mono (Kd.R_far (p:=⟨gb689,3,none⟩) (Kd.R_far (p:=⟨gb689,2,none⟩) (Kd.R_far (p:=⟨gb689,1,none⟩) (Kd.R_far (p:=⟨gb689,0,none⟩) (Kd.R_far (p:=⟨gb688,1,none⟩) (Kd.R_far (p:=⟨gb688,0,none⟩) (Kd.R_far (p:=⟨gb687,2,none⟩) (Kd.R_far (p:=⟨gb687,1,none⟩) (Kd.R_far (p:=⟨gb687,0,none⟩) (Kd.R_types (Kd.R_types (Kd.R_types HO683.out BK687.out (by decide)) BK688.out (by decide)) BK689.out (by decide)) (fun _ hk => hk.1.1.2) (.int .i64 t668)) (fun _ hk => hk.1.1.2) (.int .i64 t669)) (fun _ hk => hk.1.1.2) (.slice Ao106 t670.length co106)) (fun _ hk => hk.1.2) (.int .i64 t677)) (fun _ hk => hk.1.2) (.int .i64 t678)) (fun _ hk => hk.2) (.int .i64 t679)) (fun _ hk => hk.2) (.int .i64 t680)) (fun _ hk => hk.2) (.slice Ao112 t681.length co112)) (fun _ hk => hk.2) (.slice Ao113 t684.length co113)) (fun _ h_ => h_.1)) (fun _ h_ => h_.1)) (fun _ h_ => h_.1))) : P := h
theorem qq8 {P : Prop} (h : P := by (with_reducible repeat (first | apply kA | apply kN | apply kD));exact (Kd.R_mono (Kd.R_mono (Kd.R_mono (Kd.R_far (p:=⟨gb689,3,none⟩) (Kd.R_far (p:=⟨gb689,2,none⟩) (Kd.R_far (p:=⟨gb689,1,none⟩) (Kd.R_far (p:=⟨gb689,0,none⟩) (Kd.R_far (p:=⟨gb688,1,none⟩) (Kd.R_far (p:=⟨gb688,0,none⟩) (Kd.R_far (p:=⟨gb687,2,none⟩) (Kd.R_far (p:=⟨gb687,1,none⟩) (Kd.R_far (p:=⟨gb687,0,none⟩) (Kd.R_types (Kd.R_types (Kd.R_types HO676.out BK687.out (by decide)) BK688.out (by decide)) BK689.out (by decide)) (fun _ hk => hk.1.1.2) (.int .i64 t668)) (fun _ hk => hk.1.1.2) (.int .i64 t669)) (fun _ hk => hk.1.1.2) (.slice Ao106 t670.length co106)) (fun _ hk => hk.1.2) (.int .i64 t677)) (fun _ hk => hk.1.2) (.int .i64 t678)) (fun _ hk => hk.2) (.int .i64 t679)) (fun _ hk => hk.2) (.int .i64 t680)) (fun _ hk => hk.2) (.slice Ao112 t681.length co112)) (fun _ hk => hk.2) (.slice Ao113 t684.length co113)) (fun _ h_ => h_.1)) (fun _ h_ => h_.1)) (fun _ h_ => h_.1))) : P := h
theorem qq9 {P : Prop} (h : P := by (with_reducible repeat (first | apply kA | apply kN | apply kD));exact (Kd.R_mono (Kd.R_mono (Kd.R_mono (Kd.R_far (p:=⟨gb689,3,none⟩) (Kd.R_far (p:=⟨gb689,2,none⟩) (Kd.R_far (p:=⟨gb689,1,none⟩) (Kd.R_far (p:=⟨gb689,0,none⟩) (Kd.R_far (p:=⟨gb688,1,none⟩) (Kd.R_far (p:=⟨gb688,0,none⟩) (Kd.R_far (p:=⟨gb687,2,none⟩) (Kd.R_far (p:=⟨gb687,1,none⟩) (Kd.R_far (p:=⟨gb687,0,none⟩) (Kd.R_types (Kd.R_types (Kd.R_types HO686.out BK687.out (by decide)) BK688.out (by decide)) BK689.out (by decide)) (fun _ hk => hk.1.1.2) (.int .i64 t668)) (fun _ hk => hk.1.1.2) (.int .i64 t669)) (fun _ hk => hk.1.1.2) (.slice Ao85 t670.length co85)) (fun _ hk => hk.1.2) (.int .i64 t677)) (fun _ hk => hk.1.2) (.int .i64 t678)) (fun _ hk => hk.2) (.int .i64 t679)) (fun _ hk => hk.2) (.int .i64 t680)) (fun _ hk => hk.2) (.slice Ao91 t681.length co91)) (fun _ hk => hk.2) (.slice Ao92 t684.length co92)) (fun _ h_ => h_.1)) (fun _ h_ => h_.1)) (fun _ h_ => h_.1))) : P := h
theorem qq10 {P : Prop} (h : P := by (with_reducible repeat (first | apply kA | apply kN | apply kD));exact (Kd.R_mono (Kd.R_mono (Kd.R_mono (Kd.R_far (p:=⟨gb689,3,none⟩) (Kd.R_far (p:=⟨gb689,2,none⟩) (Kd.R_far (p:=⟨gb689,1,none⟩) (Kd.R_far (p:=⟨gb689,0,none⟩) (Kd.R_far (p:=⟨gb688,1,none⟩) (Kd.R_far (p:=⟨gb688,0,none⟩) (Kd.R_far (p:=⟨gb687,2,none⟩) (Kd.R_far (p:=⟨gb687,1,none⟩) (Kd.R_far (p:=⟨gb687,0,none⟩) (Kd.R_types (Kd.R_types (Kd.R_types HO683.out BK687.out (by decide)) BK688.out (by decide)) BK689.out (by decide)) (fun _ hk => hk.1.1.2) (.int .i64 t668)) (fun _ hk => hk.1.1.2) (.int .i64 t669)) (fun _ hk => hk.1.1.2) (.slice Ao85 t670.length co85)) (fun _ hk => hk.1.2) (.int .i64 t677)) (fun _ hk => hk.1.2) (.int .i64 t678)) (fun _ hk => hk.2) (.int .i64 t679)) (fun _ hk => hk.2) (.int .i64 t680)) (fun _ hk => hk.2) (.slice Ao91 t681.length co91)) (fun _ hk => hk.2) (.slice Ao92 t684.length co92)) (fun _ h_ => h_.1)) (fun _ h_ => h_.1)) (fun _ h_ => h_.1))) : P := h
theorem qq11 {P : Prop} (h : P := by (with_reducible repeat (first | apply kA | apply kN | apply kD));exact (Kd.R_mono (Kd.R_mono (Kd.R_mono (Kd.R_far (p:=⟨gb689,3,none⟩) (Kd.R_far (p:=⟨gb689,2,none⟩) (Kd.R_far (p:=⟨gb689,1,none⟩) (Kd.R_far (p:=⟨gb689,0,none⟩) (Kd.R_far (p:=⟨gb688,1,none⟩) (Kd.R_far (p:=⟨gb688,0,none⟩) (Kd.R_far (p:=⟨gb687,2,none⟩) (Kd.R_far (p:=⟨gb687,1,none⟩) (Kd.R_far (p:=⟨gb687,0,none⟩) (Kd.R_types (Kd.R_types (Kd.R_types HO676.out BK687.out (by decide)) BK688.out (by decide)) BK689.out (by decide)) (fun _ hk => hk.1.1.2) (.int .i64 t668)) (fun _ hk => hk.1.1.2) (.int .i64 t669)) (fun _ hk => hk.1.1.2) (.slice Ao85 t670.length co85)) (fun _ hk => hk.1.2) (.int .i64 t677)) (fun _ hk => hk.1.2) (.int .i64 t678)) (fun _ hk => hk.2) (.int .i64 t679)) (fun _ hk => hk.2) (.int .i64 t680)) (fun _ hk => hk.2) (.slice Ao91 t681.length co91)) (fun _ hk => hk.2) (.slice Ao92 t684.length co92)) (fun _ h_ => h_.1)) (fun _ h_ => h_.1)) (fun _ h_ => h_.1))) : P := h
theorem qq12 {P : Prop} (h : P := by (with_reducible repeat (first | refine dN ?_ _ | refine dD ?_ | refine dA ?_ _));refine blk_put (cs:=#[.int .i64 ((rd_T112 l0 x7_1).f0),.int .i64 ((rd_T112 l0 x7_1).f1),.int .i64 ((rd_T112 l0 x7_1).f2),.bool false]) ?_ 3 _ rfl;(with_reducible repeat (first | refine dN ?_ _ | refine dD ?_ | refine dA ?_ _));refine blk_put (cs:=#[.int .i64 ((rd_T112 l0 x7_1).f0),.int .i64 ((rd_T112 l0 x7_1).f1),.int .i64 0,.bool false]) ?_ 2 _ rfl;(with_reducible repeat (first | refine dN ?_ _ | refine dD ?_ | refine dA ?_ _));refine blk_put (cs:=#[.int .i64 ((rd_T112 l0 x7_1).f0),.int .i64 0,.int .i64 0,.bool false]) ?_ 1 _ rfl;(with_reducible repeat (first | refine dN ?_ _ | refine dD ?_ | refine dA ?_ _));refine blk_put (cs:=#[.int .i64 0,.int .i64 0,.int .i64 0,.bool false]) ?_ 0 _ rfl;(with_reducible repeat (first | refine dN ?_ _ | refine dD ?_ | refine dA ?_ _));exact BK103.out) : P := h
theorem qq13 {P : Prop} (h : P := by (with_reducible repeat (first | refine dN ?_ _ | refine dD ?_ | refine dA ?_ _));refine blk_far ?_ NB258_266.out _;(with_reducible repeat (first | refine dN ?_ _ | refine dD ?_ | refine dA ?_ _));refine blk_far ?_ NB258_266.out _;(with_reducible repeat (first | refine dN ?_ _ | refine dD ?_ | refine dA ?_ _));refine blk_far ?_ NB258_266.out _;(with_reducible repeat (first | refine dN ?_ _ | refine dD ?_ | refine dA ?_ _));exact BK258.out) : P := h
theorem qq14 {P : Prop} (h : P := by (with_reducible repeat (first | refine dN ?_ _ | refine dD ?_ | refine dA ?_ _));refine blk_put (cs:=#[.int .i64 ((rd_T76 l2 x20_2).f0),.int .i64 0]) ?_ 1 _ rfl;(with_reducible repeat (first | refine dN ?_ _ | refine dD ?_ | refine dA ?_ _));refine blk_put (cs:=#[.int .i64 0,.int .i64 0]) ?_ 0 _ rfl;(with_reducible repeat (first | refine dN ?_ _ | refine dD ?_ | refine dA ?_ _));exact BK415.out) : P := h
theorem qq15 {P : Prop} (h : P := by (with_reducible repeat (first | apply Kd.Q_alloc | apply Kd.Q_drewN | apply Kd.Q_drew));exact (Kd.Q_mono (Kd.Q_far (p:=⟨gb647,2,none⟩) (Kd.Q_far (p:=⟨gb647,1,none⟩) (Kd.Q_far (p:=⟨gb647,0,none⟩) (Kd.Q_types HO642.out BK647.out (by decide)) (fun _ hk => hk.2) (.int .i64 t638)) (fun _ hk => hk.2) (.int .i64 t639)) (fun _ hk => hk.2) (.slice Ao10 t640.length co10)) (fun _ h_ => h_.1))) : P := h
theorem qq16 {P : Prop} (h : P := by repeat (first | (with_reducible first | exact HI559.out | apply IsS141.alloc | apply IsS141.drewN | apply IsS141.drew | apply IsS141.set_1 | apply IsS141.set_2 | refine IsS141.far ?_ NB559_553.out _ | refine IsS141.far ?_ NB559_554.out _ | refine IsS141.far ?_ NB559_555.out _ | refine IsS141.far ?_ NB559_571.out _ | refine IsS141.far ?_ NB559_576.out _) | exact HI559.out)) : P := h
theorem qq17 {P : Prop} (h : P := by (with_reducible repeat (first | apply kA | apply kN | apply kD));exact (Kd.R_mono (Kd.R_far (p:=⟨gb647,2,none⟩) (Kd.R_far (p:=⟨gb647,1,none⟩) (Kd.R_far (p:=⟨gb647,0,none⟩) (Kd.R_types HO646.out BK647.out (by decide)) (fun _ hk => hk.2) (.int .i64 t638)) (fun _ hk => hk.2) (.int .i64 t639)) (fun _ hk => hk.2) (.slice Ao10 t640.length co10)) (fun _ h_ => h_.1))) : P := h
theorem qq18 {P : Prop} (h : P := by (with_reducible repeat (first | apply kA | apply kN | apply kD));exact (Kd.R_mono (Kd.R_far (p:=⟨gb266,2,none⟩) (Kd.R_far (p:=⟨gb266,1,none⟩) (Kd.R_far (p:=⟨gb266,0,none⟩) (Kd.R_types HO263.out BK266.out (by decide)) (fun _ hk => hk.2) (.int .i64 t259)) (fun _ hk => hk.2) (.int .i64 t260)) (fun _ hk => hk.2) (.slice Ao11 t261.length co11)) (fun _ h_ => h_.1))) : P := h
theorem qq19 {P : Prop} (h : P := by repeat (first | (with_reducible first | exact HI559.out | apply IsS141.alloc | apply IsS141.drewN | apply IsS141.drew | apply IsS141.set_1 | apply IsS141.set_2 | refine IsS141.far ?_ NB559_553.out _ | refine IsS141.far ?_ NB559_554.out _ | refine IsS141.far ?_ NB559_555.out _ | refine IsS141.far ?_ NB559_571.out _) | exact HI559.out)) : P := h
theorem qq20 {P : Prop} (h : P := by (with_reducible repeat (first | refine dN ?_ _ | refine dD ?_ | refine dA ?_ _));refine blk_far ?_ NB412_415.out _;(with_reducible repeat (first | refine dN ?_ _ | refine dD ?_ | refine dA ?_ _));refine blk_far ?_ NB412_415.out _;(with_reducible repeat (first | refine dN ?_ _ | refine dD ?_ | refine dA ?_ _));exact BK412.out) : P := h
theorem qq21 {P : Prop} (h : P := by repeat (first | (with_reducible first | exact HI0.out | apply IsS141.alloc | apply IsS141.drewN | apply IsS141.drew | apply IsS141.set_1 | apply IsS141.set_2 | refine IsS141.far ?_ NB0_526.out _ | refine IsS141.far ?_ NB0_527.out _ | refine IsS141.far ?_ NB0_528.out _ | refine IsS141.far ?_ NB0_545.out _) | exact HI0.out)) : P := h
theorem qq22 {P : Prop} (h : P := by first | exact Kd.own_blk (Kd.R_ne HO_6.out BK258.out (by decide)) | (rw [add_block];exact Kd.own_blk (Kd.R_ne HO_6.out BK258.out (by decide))) | (show (Addr.add _ _).block ≠ _;rw [add_block];exact Kd.own_blk (Kd.R_ne HO_6.out BK258.out (by decide))) | (dsimp only;exact Kd.own_blk (Kd.R_ne HO_6.out BK258.out (by decide)))) : P := h
theorem qq23 {P : Prop} (h : P := by (with_reducible repeat (first | apply kA | apply kN | apply kD));exact (Kd.R_mono (Kd.R_far (p:=⟨gb447,1,none⟩) (Kd.R_far (p:=⟨gb447,0,none⟩) (Kd.R_types HO_7.out BK447.out (by decide)) (fun _ hk => hk.2) (.int .i64 ((rd_T76 l2 x19_1).f0))) (fun _ hk => hk.2) (.int .i64 ((rd_T76 l2 x19_1).f1))) (fun _ h_ => h_.1))) : P := h
theorem qq24 {P : Prop} (h : P := by rw [hg];exact (below_size qq31)) : P := h
theorem qq25 {P : Prop} (h : P := by repeat (first | (with_reducible first | exact HB.out | apply bA | apply bN | apply bD | refine below_set ?_ (IsS141.ge HI559.out) | refine below_set ?_ GE553.out | refine below_set ?_ GE554.out | refine below_set ?_ GE555.out | refine below_set ?_ GE571.out | refine below_set ?_ GE576.out) | exact HB.out)) : P := h
theorem qq26 {P : Prop} (h : P := by rw [hg];exact (keep_size (w:=w) (g:=g) (row:=none) qq41)) : P := h
theorem qq27 {P : Prop} (h : P := by repeat (first | (with_reducible first | exact HI559.out | apply IsS141.alloc | apply IsS141.drewN | apply IsS141.drew | apply IsS141.set_1 | apply IsS141.set_2 | refine IsS141.far ?_ NB559_553.out _ | refine IsS141.far ?_ NB559_554.out _ | refine IsS141.far ?_ NB559_555.out _) | exact HI559.out)) : P := h
theorem qq28 {P : Prop} (h : P := by repeat (first | (with_reducible first | exact HI0.out | apply IsS141.alloc | apply IsS141.drewN | apply IsS141.drew | apply IsS141.set_1 | apply IsS141.set_2 | refine IsS141.far ?_ NB0_526.out _ | refine IsS141.far ?_ NB0_527.out _ | refine IsS141.far ?_ NB0_528.out _) | exact HI0.out)) : P := h
theorem qq29 {P : Prop} (h : P := by repeat (first | (with_reducible first | exact HK.out | apply KeepBut.set_ | apply keep_drewN | apply keep_drew | apply keep_alloc | refine keep_far ?_ GW526.out _ | refine keep_far ?_ GW527.out _ | refine keep_far ?_ GW528.out _ | refine keep_far ?_ GW545.out _) | exact HK.out)) : P := h
theorem qq30 {P : Prop} (h : P := by rw [hg];exact (below_size qq43)) : P := h
theorem qq31 {P : Prop} (h : P := by repeat (first | (with_reducible first | exact HB.out | apply bA | apply bN | apply bD | refine below_set ?_ (IsS141.ge HI559.out) | refine below_set ?_ GE553.out | refine below_set ?_ GE554.out | refine below_set ?_ GE555.out | refine below_set ?_ GE571.out) | exact HB.out)) : P := h
theorem qq32 {P : Prop} (h : P := by repeat (first | (with_reducible first | exact HB.out | apply bA | apply bN | apply bD | refine below_set ?_ (IsS141.ge HI0.out) | refine below_set ?_ GE526.out | refine below_set ?_ GE527.out | refine below_set ?_ GE528.out | refine below_set ?_ GE545.out) | exact HB.out)) : P := h
theorem qq33 {P : Prop} (h : P := by exact Kd.V_mk HC4_3.out (Kd.F_below (Kd.C_F Kd.heap_bool HR4_3.out) qq88)) : P := h
theorem qq34 {P : Prop} (h : P := by rw [hg];exact (keep_size (w:=w) (g:=g) (row:=none) qq68)) : P := h
theorem qq35 {P : Prop} (h : P := by first | (rw [add_block];exact Kd.own_blk (IsS141.own_ne HI0.out HO_6.out (by decide))) | (show (Addr.add _ _).block ≠ _;rw [add_block];exact Kd.own_blk (IsS141.own_ne HI0.out HO_6.out (by decide))) | exact Kd.own_blk (IsS141.own_ne HI0.out HO_6.out (by decide))) : P := h
theorem qq36 {P : Prop} (h : P := by rw [hg];exact Nat.ne_of_lt (IsS141.lt (show IsS141 w0 _ g s0_0 s0_1 s0_2 from by repeat (first | (with_reducible first | exact HI0.out | apply IsS141.alloc | apply IsS141.drewN | apply IsS141.drew | apply IsS141.set_1 | apply IsS141.set_2) | exact HI0.out)))) : P := h
theorem qq37 {P : Prop} (h : P := by rw [hg];exact Nat.ne_of_gt (IsS141.lt (show IsS141 w0 _ g s0_0 s0_1 s0_2 from by repeat (first | (with_reducible first | exact HI0.out | apply IsS141.alloc | apply IsS141.drewN | apply IsS141.drew | apply IsS141.set_1 | apply IsS141.set_2) | exact HI0.out)))) : P := h
theorem qq38 {P : Prop} (h : P := by repeat (first | (with_reducible first | exact HI0.out | apply IsS141.alloc | apply IsS141.drewN | apply IsS141.drew | apply IsS141.set_1 | apply IsS141.set_2 | refine IsS141.far ?_ NB0_258.out _ | refine IsS141.far ?_ NB0_266.out _) | exact HI0.out)) : P := h
theorem qq39 {P : Prop} (h : P := by repeat (first | (with_reducible first | exact HI0.out | apply IsS141.alloc | apply IsS141.drewN | apply IsS141.drew | apply IsS141.set_1 | apply IsS141.set_2 | refine IsS141.far ?_ NB0_230.out _ | refine IsS141.far ?_ NB0_238.out _) | exact HI0.out)) : P := h
theorem qq40 {P : Prop} (h : P := by repeat (first | (with_reducible first | exact HI0.out | apply IsS141.alloc | apply IsS141.drewN | apply IsS141.drew | apply IsS141.set_1 | apply IsS141.set_2 | refine IsS141.far ?_ NB0_206.out _ | refine IsS141.far ?_ NB0_213.out _) | exact HI0.out)) : P := h
theorem qq41 {P : Prop} (h : P := by repeat (first | (with_reducible first | exact HK.out | apply KeepBut.set_ | apply keep_drewN | apply keep_drew | apply keep_alloc | refine keep_far ?_ GW526.out _ | refine keep_far ?_ GW527.out _ | refine keep_far ?_ GW528.out _) | exact HK.out)) : P := h
theorem qq42 {P : Prop} (h : P := by exact (fun k_ hk => ⟨Kd.fresh' (Kd.R_lt qq283) k_ hk,Kd.fresh' (Kd.R_lt qq255) k_ hk⟩)) : P := h
theorem qq43 {P : Prop} (h : P := by repeat (first | (with_reducible first | exact HB.out | apply bA | apply bN | apply bD | refine below_set ?_ (IsS141.ge HI559.out) | refine below_set ?_ GE553.out | refine below_set ?_ GE554.out | refine below_set ?_ GE555.out) | exact HB.out)) : P := h
theorem qq44 {P : Prop} (h : P := by repeat (first | (with_reducible first | exact HB.out | apply bA | apply bN | apply bD | refine below_set ?_ (IsS141.ge HI0.out) | refine below_set ?_ GE526.out | refine below_set ?_ GE527.out | refine below_set ?_ GE528.out) | exact HB.out)) : P := h
theorem qq45 {P : Prop} (h : P := by rw [hg];exact (keep_size (w:=w) (g:=g) (row:=none) qq96)) : P := h
theorem qq46 {P : Prop} (h : P := by rw [hg];exact (keep_size (w:=w) (g:=g) (row:=none) qq99)) : P := h
theorem qq47 {P : Prop} (h : P := by rw [hg];exact (keep_size (w:=w) (g:=g) (row:=none) qq100)) : P := h
theorem qq48 {P : Prop} (h : P := by rw [hg];exact (keep_size (w:=w) (g:=g) (row:=none) qq101)) : P := h
theorem qq49 {P : Prop} (h : P := by rw [hg];exact Nat.ne_of_lt (blk_lt (g:=gb647) (o:=.cells #[.int .i64 t638,.int .i64 t639,.slice Ao10 t640.length co10] 51 (0,0)) qq204)) : P := h
theorem qq50 {P : Prop} (h : P := by rw [hg];exact Nat.ne_of_lt (blk_lt (g:=gb630) (o:=.cells #[.int .i64 a0_0,.int .i64 a0_1,.slice A0_2 l0_2.length c0_2] 51 (0,0)) qq207)) : P := h
theorem qq51 {P : Prop} (h : P := by rw [hg];exact Nat.ne_of_lt (blk_lt (g:=gb526) (o:=.cells #[.int .i64 a1_0,.int .i64 a1_1,.slice A1_2 l1_2.length c1_2] 51 (0,0)) qq217)) : P := h
theorem qq52 {P : Prop} (h : P := by rw [hg];exact Nat.ne_of_lt (blk_lt (g:=gb412) (o:=.cells #[.int .i64 a0_0,.int .i64 a0_1,.slice A0_2 l0_2.length c0_2] 51 (0,0)) qq224)) : P := h
theorem qq53 {P : Prop} (h : P := by rw [hg];exact Nat.ne_of_gt (blk_lt (g:=gb647) (o:=.cells #[.int .i64 t638,.int .i64 t639,.slice Ao10 t640.length co10] 51 (0,0)) qq204)) : P := h
theorem qq54 {P : Prop} (h : P := by rw [hg];exact Nat.ne_of_gt (blk_lt (g:=gb630) (o:=.cells #[.int .i64 a0_0,.int .i64 a0_1,.slice A0_2 l0_2.length c0_2] 51 (0,0)) qq207)) : P := h
theorem qq55 {P : Prop} (h : P := by rw [hg];exact Nat.ne_of_gt (blk_lt (g:=gb526) (o:=.cells #[.int .i64 a1_0,.int .i64 a1_1,.slice A1_2 l1_2.length c1_2] 51 (0,0)) qq217)) : P := h
theorem qq56 {P : Prop} (h : P := by rw [hg];exact Nat.ne_of_gt (blk_lt (g:=gb412) (o:=.cells #[.int .i64 a0_0,.int .i64 a0_1,.slice A0_2 l0_2.length c0_2] 51 (0,0)) qq224)) : P := h
theorem qq57 {P : Prop} (h : P := by rw [hg];exact (below_size qq87)) : P := h
theorem qq58 {P : Prop} (h : P := by repeat (first | (with_reducible first | exact HB.out | apply bA | apply bN | apply bD | refine below_set ?_ GE647.out | refine below_set ?_ GE687.out | refine below_set ?_ GE688.out | refine below_set ?_ GE689.out) | exact HB.out)) : P := h
theorem qq59 {P : Prop} (h : P := by rw [hg];exact Nat.ne_of_lt (blk_lt (g:=gb555) (o:=.cells #[.int .i64 0,.int .i64 0,.slice none 0 0,.slice none 0 0] 27 (0,0)) qq211)) : P := h
theorem qq60 {P : Prop} (h : P := by rw [hg];exact Nat.ne_of_lt (blk_lt (g:=gb528) (o:=.cells #[.int .i64 0,.int .i64 0,.slice none 0 0,.slice none 0 0] 27 (0,0)) qq215)) : P := h
theorem qq61 {P : Prop} (h : P := by rw [hg];exact Nat.ne_of_gt (blk_lt (g:=gb555) (o:=.cells #[.int .i64 0,.int .i64 0,.slice none 0 0,.slice none 0 0] 27 (0,0)) qq211)) : P := h
theorem qq62 {P : Prop} (h : P := by rw [hg];exact Nat.ne_of_gt (blk_lt (g:=gb528) (o:=.cells #[.int .i64 0,.int .i64 0,.slice none 0 0,.slice none 0 0] 27 (0,0)) qq215)) : P := h
theorem qq63 {P : Prop} (h : P := by exact (keep_size (w:=w) (g:=g) (row:=none) qq97)) : P := h
theorem qq64 {P : Prop} (h : P := by rw [hg];exact Nat.ne_of_lt (blk_lt (g:=gb687) (o:=.cells #[.int .i64 0,.int .i64 0,.slice none 0 0] 51 (0,0)) qq203)) : P := h
theorem qq65 {P : Prop} (h : P := by rw [hg];exact Nat.ne_of_lt (blk_lt (g:=gb553) (o:=.cells #[.int .i64 0,.int .i64 0,.slice none 0 0] 51 (0,0)) qq213)) : P := h
theorem qq66 {P : Prop} (h : P := by rw [hg];exact Nat.ne_of_gt (blk_lt (g:=gb687) (o:=.cells #[.int .i64 0,.int .i64 0,.slice none 0 0] 51 (0,0)) qq203)) : P := h
theorem qq67 {P : Prop} (h : P := by rw [hg];exact Nat.ne_of_gt (blk_lt (g:=gb553) (o:=.cells #[.int .i64 0,.int .i64 0,.slice none 0 0] 51 (0,0)) qq213)) : P := h
theorem qq68 {P : Prop} (h : P := by repeat (first | (with_reducible first | exact HK.out | apply KeepBut.set_ | apply keep_drewN | apply keep_drew | apply keep_alloc | refine keep_far ?_ GW526.out _ | refine keep_far ?_ GW527.out _) | exact HK.out)) : P := h
theorem qq69 {P : Prop} (h : P := by repeat (first | (with_reducible first | exact HK.out | apply KeepBut.set_ | apply keep_drewN | apply keep_drew | apply keep_alloc | refine keep_far ?_ GW258.out _ | refine keep_far ?_ GW266.out _) | exact HK.out)) : P := h
theorem qq70 {P : Prop} (h : P := by repeat (first | (with_reducible first | exact HK.out | apply KeepBut.set_ | apply keep_drewN | apply keep_drew | apply keep_alloc | refine keep_far ?_ GW230.out _ | refine keep_far ?_ GW238.out _) | exact HK.out)) : P := h
theorem qq71 {P : Prop} (h : P := by repeat (first | (with_reducible first | exact HK.out | apply KeepBut.set_ | apply keep_drewN | apply keep_drew | apply keep_alloc | refine keep_far ?_ GW206.out _ | refine keep_far ?_ GW213.out _) | exact HK.out)) : P := h
theorem qq72 {P : Prop} (h : P := by repeat (first | (with_reducible first | exact HI0.out | apply IsS141.alloc | apply IsS141.drewN | apply IsS141.drew | apply IsS141.set_1 | apply IsS141.set_2 | refine IsS141.far ?_ NB0_494.out _) | exact HI0.out)) : P := h
theorem qq73 {P : Prop} (h : P := by repeat (first | (with_reducible first | exact HI0.out | apply IsS141.alloc | apply IsS141.drewN | apply IsS141.drew | apply IsS141.set_1 | apply IsS141.set_2 | refine IsS141.far ?_ NB0_475.out _) | exact HI0.out)) : P := h
theorem qq74 {P : Prop} (h : P := by repeat (first | (with_reducible first | exact HI0.out | apply IsS141.alloc | apply IsS141.drewN | apply IsS141.drew | apply IsS141.set_1 | apply IsS141.set_2 | refine IsS141.far ?_ NB0_258.out _) | exact HI0.out)) : P := h
theorem qq75 {P : Prop} (h : P := by repeat (first | (with_reducible first | exact HI0.out | apply IsS141.alloc | apply IsS141.drewN | apply IsS141.drew | apply IsS141.set_1 | apply IsS141.set_2 | refine IsS141.far ?_ NB0_230.out _) | exact HI0.out)) : P := h
theorem qq76 {P : Prop} (h : P := by repeat (first | (with_reducible first | exact HI0.out | apply IsS141.alloc | apply IsS141.drewN | apply IsS141.drew | apply IsS141.set_1 | apply IsS141.set_2 | refine IsS141.far ?_ NB0_206.out _) | exact HI0.out)) : P := h
theorem qq77 {P : Prop} (h : P := by (with_reducible repeat (first | refine dN ?_ _ | refine dD ?_ | refine dA ?_ _));refine blk_far ?_ NB230_238.out _;(with_reducible repeat (first | refine dN ?_ _ | refine dD ?_ | refine dA ?_ _));exact BK230.out) : P := h
theorem qq78 {P : Prop} (h : P := by repeat (first | (with_reducible first | exact HB.out | apply bA | apply bN | apply bD | refine below_set ?_ (IsS141.ge HI0.out) | refine below_set ?_ GE258.out | refine below_set ?_ GE266.out) | exact HB.out)) : P := h
theorem qq79 {P : Prop} (h : P := by repeat (first | (with_reducible first | exact HB.out | apply bA | apply bN | apply bD | refine below_set ?_ (IsS141.ge HI0.out) | refine below_set ?_ GE230.out | refine below_set ?_ GE238.out) | exact HB.out)) : P := h
theorem qq80 {P : Prop} (h : P := by repeat (first | (with_reducible first | exact HB.out | apply bA | apply bN | apply bD | refine below_set ?_ (IsS141.ge HI0.out) | refine below_set ?_ GE206.out | refine below_set ?_ GE213.out) | exact HB.out)) : P := h
theorem qq81 {P : Prop} (h : P := by rw [hg];exact (keep_size (w:=w) (g:=g) (row:=none) qq139)) : P := h
theorem qq82 {P : Prop} (h : P := by rw [hg];exact Nat.ne_of_lt (blk_lt (g:=gb527) (o:=.cells #[.int .i64 a2_0,.int .i64 a2_1] 37 (0,0)) qq216)) : P := h
theorem qq83 {P : Prop} (h : P := by rw [hg];exact Nat.ne_of_gt (blk_lt (g:=gb527) (o:=.cells #[.int .i64 a2_0,.int .i64 a2_1] 37 (0,0)) qq216)) : P := h
theorem qq84 {P : Prop} (h : P := by rw [hg];exact (below_size qq115)) : P := h
theorem qq85 {P : Prop} (h : P := by rw [hg];exact (below_size qq116)) : P := h
theorem qq86 {P : Prop} (h : P := by rw [hg];exact (below_size qq117)) : P := h
theorem qq87 {P : Prop} (h : P := by repeat (first | (with_reducible first | exact HB.out | apply bA | apply bN | apply bD | refine below_set ?_ GE647.out | refine below_set ?_ GE687.out | refine below_set ?_ GE688.out) | exact HB.out)) : P := h
theorem qq88 {P : Prop} (h : P := by repeat (first | (with_reducible first | exact HB.out | apply bA | apply bN | apply bD | refine below_set ?_ GE630.out | refine below_set ?_ GE631.out | refine below_set ?_ GE632.out) | exact HB.out)) : P := h
theorem qq89 {P : Prop} (h : P := by exact Kd.C_below HR0_2.out qq119) : P := h
theorem qq90 {P : Prop} (h : P := by rw [hg];exact Nat.ne_of_lt (blk_lt (g:=gb688) (o:=.cells #[.int .i64 0,.int .i64 0] 37 (0,0)) qq202)) : P := h
theorem qq91 {P : Prop} (h : P := by rw [hg];exact Nat.ne_of_lt (blk_lt (g:=gb554) (o:=.cells #[.int .i64 0,.int .i64 0] 37 (0,0)) qq212)) : P := h
theorem qq92 {P : Prop} (h : P := by rw [hg];exact Nat.ne_of_gt (blk_lt (g:=gb688) (o:=.cells #[.int .i64 0,.int .i64 0] 37 (0,0)) qq202)) : P := h
theorem qq93 {P : Prop} (h : P := by rw [hg];exact Nat.ne_of_gt (blk_lt (g:=gb554) (o:=.cells #[.int .i64 0,.int .i64 0] 37 (0,0)) qq212)) : P := h
theorem qq94 {P : Prop} (h : P := by exact (below_size qq118)) : P := h
theorem qq95 {P : Prop} (h : P := by have h_ : (0 : Int) < ((x7_1.length : Int) : Int):=odt qq293;first | exact h_ | (have e_:=(Kd.R_reads' HO_7.out).1;omega) | simpa using h_) : P := h
theorem qq96 {P : Prop} (h : P := by repeat (first | (with_reducible first | exact HK.out | apply KeepBut.set_ | apply keep_drewN | apply keep_drew | apply keep_alloc | refine keep_far ?_ GW526.out _) | exact HK.out)) : P := h
theorem qq97 {P : Prop} (h : P := by repeat (first | (with_reducible first | exact HK.out | apply KeepBut.set_ | apply keep_drewN | apply keep_drew | apply keep_alloc | refine keep_far ?_ GW494.out _) | exact HK.out)) : P := h
theorem qq98 {P : Prop} (h : P := by repeat (first | (with_reducible first | exact HK.out | apply KeepBut.set_ | apply keep_drewN | apply keep_drew | apply keep_alloc | refine keep_far ?_ GW475.out _) | exact HK.out)) : P := h
theorem qq99 {P : Prop} (h : P := by repeat (first | (with_reducible first | exact HK.out | apply KeepBut.set_ | apply keep_drewN | apply keep_drew | apply keep_alloc | refine keep_far ?_ GW258.out _) | exact HK.out)) : P := h
theorem qq100 {P : Prop} (h : P := by repeat (first | (with_reducible first | exact HK.out | apply KeepBut.set_ | apply keep_drewN | apply keep_drew | apply keep_alloc | refine keep_far ?_ GW230.out _) | exact HK.out)) : P := h
theorem qq101 {P : Prop} (h : P := by repeat (first | (with_reducible first | exact HK.out | apply KeepBut.set_ | apply keep_drewN | apply keep_drew | apply keep_alloc | refine keep_far ?_ GW206.out _) | exact HK.out)) : P := h
theorem qq102 {P : Prop} (h : P := by repeat (first | (with_reducible first | exact HB.out | apply bA | apply bN | apply bD | refine below_set ?_ (IsS141.ge HI315.out) | refine below_set ?_ GE311.out) | exact HB.out)) : P := h
theorem qq103 {P : Prop} (h : P := by exact qq118) : P := h
theorem qq104 {P : Prop} (h : P := by repeat (first | (with_reducible first | exact HB.out | apply bA | apply bN | apply bD | refine below_set ?_ (IsS141.ge HI0.out) | refine below_set ?_ GE494.out) | exact HB.out)) : P := h
theorem qq105 {P : Prop} (h : P := by repeat (first | (with_reducible first | exact HB.out | apply bA | apply bN | apply bD | refine below_set ?_ (IsS141.ge HI0.out) | refine below_set ?_ GE475.out) | exact HB.out)) : P := h
theorem qq106 {P : Prop} (h : P := by repeat (first | (with_reducible first | exact HB.out | apply bA | apply bN | apply bD | refine below_set ?_ (IsS141.ge HI0.out) | refine below_set ?_ GE258.out) | exact HB.out)) : P := h
theorem qq107 {P : Prop} (h : P := by repeat (first | (with_reducible first | exact HB.out | apply bA | apply bN | apply bD | refine below_set ?_ (IsS141.ge HI0.out) | refine below_set ?_ GE230.out) | exact HB.out)) : P := h
theorem qq108 {P : Prop} (h : P := by repeat (first | (with_reducible first | exact HB.out | apply bA | apply bN | apply bD | refine below_set ?_ (IsS141.ge HI0.out) | refine below_set ?_ GE206.out) | exact HB.out)) : P := h
theorem qq109 {P : Prop} (h : P := by repeat (first | (with_reducible first | exact HI0.out | apply IsS141.alloc | apply IsS141.drewN | apply IsS141.drew | apply IsS141.set_1 | apply IsS141.set_2) | exact HI0.out)) : P := h
theorem qq110 {P : Prop} (h : P := by rw [hg];exact (below_size qq150)) : P := h
theorem qq111 {P : Prop} (h : P := by rw [hg];exact (below_size qq151)) : P := h
theorem qq112 {P : Prop} (h : P := by rw [hg];exact (below_size qq155)) : P := h
theorem qq113 {P : Prop} (h : P := by rw [hg];exact (below_size qq159)) : P := h
theorem qq114 {P : Prop} (h : P := by rw [hg];exact (below_size qq161)) : P := h
theorem qq115 {P : Prop} (h : P := by repeat (first | (with_reducible first | exact HB.out | apply bA | apply bN | apply bD | refine below_set ?_ GE647.out | refine below_set ?_ GE687.out) | exact HB.out)) : P := h
theorem qq116 {P : Prop} (h : P := by repeat (first | (with_reducible first | exact HB.out | apply bA | apply bN | apply bD | refine below_set ?_ GE630.out | refine below_set ?_ GE631.out) | exact HB.out)) : P := h
theorem qq117 {P : Prop} (h : P := by repeat (first | (with_reducible first | exact HB.out | apply bA | apply bN | apply bD | refine below_set ?_ GE553.out | refine below_set ?_ GE554.out) | exact HB.out)) : P := h
theorem qq118 {P : Prop} (h : P := by repeat (first | (with_reducible first | exact HB.out | apply bA | apply bN | apply bD | refine below_set ?_ GE441.out | refine below_set ?_ GE447.out) | exact HB.out)) : P := h
theorem qq119 {P : Prop} (h : P := by repeat (first | (with_reducible first | exact HB.out | apply bA | apply bN | apply bD | refine below_set ?_ GE412.out | refine below_set ?_ GE415.out) | exact HB.out)) : P := h
theorem qq120 {P : Prop} (h : P := by first | rfl | (simp [errW_none,errW_some] <;> rfl) | (simp only [← hji53];first | rfl | (simp [errW_none,errW_some] <;> rfl)) | (simp [*,errW_none,errW_some] <;> rfl)) : P := h
theorem qq121 {P : Prop} (h : P := by first | rfl | (simp [errW_none,errW_some] <;> rfl) | (simp only [← hji41];first | rfl | (simp [errW_none,errW_some] <;> rfl)) | (simp [*,errW_none,errW_some] <;> rfl)) : P := h
theorem qq122 {P : Prop} (h : P := by first | rfl | (simp [errW_none,errW_some] <;> rfl) | (simp only [← hji26];first | rfl | (simp [errW_none,errW_some] <;> rfl)) | (simp [*,errW_none,errW_some] <;> rfl)) : P := h
theorem qq123 {P : Prop} (h : P := by repeat (first | (with_reducible first | exact HB.out | apply bA | apply bN | apply bD | refine below_set ?_ GB12.out | refine below_set ?_ GE168.out) | exact HB.out)) : P := h
theorem qq124 {P : Prop} (h : P := by first | rfl | (simp [errW_none,errW_some] <;> rfl) | (simp only [← hji8];first | rfl | (simp [errW_none,errW_some] <;> rfl)) | (simp [*,errW_none,errW_some] <;> rfl)) : P := h
theorem qq125 {P : Prop} (h : P := by (try simp only [List.map_toArray,List.map_cons,List.map_nil]);first | done | (simp only [hji26];rfl) | rfl | (simp only [List.length_drop,List.length_take];rfl)) : P := h
theorem qq126 {P : Prop} (h : P := by exact (below_size qq160)) : P := h
theorem qq127 {P : Prop} (h : P := by exact (below_size qq163)) : P := h
theorem qq128 {P : Prop} (h : P := by exact (below_size qq172)) : P := h
theorem qq129 {P : Prop} (h : P := by repeat (first | exact (Kd.Q_reads' HO_648002.out).2.2 | (with_reducible refine cA ?_ _) | (with_reducible refine cN ?_ _) | (with_reducible refine cD ?_))) : P := h
theorem qq130 {P : Prop} (h : P := by repeat (first | exact (Kd.C_below HR4_2.out HB.out) | (with_reducible refine cA ?_ _) | (with_reducible refine cN ?_ _) | (with_reducible refine cD ?_))) : P := h
theorem qq131 {P : Prop} (h : P := by repeat (first | exact (Kd.C_below HR0_2.out HB.out) | (with_reducible refine cA ?_ _) | (with_reducible refine cN ?_ _) | (with_reducible refine cD ?_))) : P := h
theorem qq132 {P : Prop} (h : P := by repeat (first | exact (Kd.R_reads' HO646.out).2.2 | (with_reducible refine cA ?_ _) | (with_reducible refine cN ?_ _) | (with_reducible refine cD ?_))) : P := h
theorem qq133 {P : Prop} (h : P := by repeat (first | exact (Kd.R_reads' HO422.out).2.2 | (with_reducible refine cA ?_ _) | (with_reducible refine cN ?_ _) | (with_reducible refine cD ?_))) : P := h
theorem qq134 {P : Prop} (h : P := by repeat (first | exact (Kd.Q_reads' HO642.out).2.2 | (with_reducible refine cA ?_ _) | (with_reducible refine cN ?_ _) | (with_reducible refine cD ?_))) : P := h
theorem qq135 {P : Prop} (h : P := by repeat (first | exact (Kd.C_below HR2.out HB.out) | (with_reducible refine cA ?_ _) | (with_reducible refine cN ?_ _) | (with_reducible refine cD ?_))) : P := h
theorem qq136 {P : Prop} (h : P := by repeat (first | exact (Kd.C_below HR0.out HB.out) | (with_reducible refine cA ?_ _) | (with_reducible refine cN ?_ _) | (with_reducible refine cD ?_))) : P := h
theorem qq137 {P : Prop} (h : P := by repeat (first | exact (Kd.V_reads' HO_1.out).2.2 | (with_reducible refine cA ?_ _) | (with_reducible refine cN ?_ _) | (with_reducible refine cD ?_))) : P := h
theorem qq138 {P : Prop} (h : P := by repeat (first | exact (Kd.R_reads' HO_7.out).2.2 | (with_reducible refine cA ?_ _) | (with_reducible refine cN ?_ _) | (with_reducible refine cD ?_))) : P := h
theorem qq139 {P : Prop} (h : P := by repeat (first | (with_reducible first | exact HK.out | apply KeepBut.set_ | apply keep_drewN | apply keep_drew | apply keep_alloc) | exact HK.out)) : P := h
theorem qq140 {P : Prop} (h : P := by exact qq160) : P := h
theorem qq141 {P : Prop} (h : P := by exact qq163) : P := h
theorem qq142 {P : Prop} (h : P := by exact qq172) : P := h
theorem qq143 {P : Prop} (h : P := by repeat (first | (with_reducible first | exact HB.out | apply bA | apply bN | apply bD | refine below_set ?_ (IsS141.ge HI0.out)) | exact HB.out)) : P := h
theorem qq144 {P : Prop} (h : P := by (try simp only [hl5_2]);(try simp only [hl5_3]);(with_reducible repeat (first | refine dN ?_ _ | refine dD ?_ | refine dA ?_ _));exact BK168.out) : P := h
theorem qq145 {P : Prop} (h : P := by first | exact Kd.R_nil _ _ _ _ _ | exact Kd.N_nil _ _ _ _ _ | exact Kd.V_nil _ _ _ _ _ | exact Kd.Q_nil _ _ _ _ _ | exact Kd.S_nil _ _ _ _ _) : P := h
theorem qq146 {P : Prop} (h : P := by (with_reducible repeat (first | apply Kd.Q_alloc | apply Kd.Q_drewN | apply Kd.Q_drew));exact Kd.Q_mono HO_648002.out (fun _ hk => trivial)) : P := h
theorem qq147 {P : Prop} (h : P := by (with_reducible repeat (first | apply Kd.Q_alloc | apply Kd.Q_drewN | apply Kd.Q_drew));exact Kd.Q_mono HO_6.out (fun _ hk => ⟨hk.2,hk.1⟩)) : P := h
theorem qq148 {P : Prop} (h : P := by rw [hg];exact (below_size qq192)) : P := h
theorem qq149 {P : Prop} (h : P := by rw [hg];exact (below_size qq197)) : P := h
theorem qq150 {P : Prop} (h : P := by repeat (first | (with_reducible first | exact HB.out | apply bA | apply bN | apply bD | refine below_set ?_ GE647.out) | exact HB.out)) : P := h
theorem qq151 {P : Prop} (h : P := by repeat (first | (with_reducible first | exact HB.out | apply bA | apply bN | apply bD | refine below_set ?_ GE630.out) | exact HB.out)) : P := h
theorem qq152 {P : Prop} (h : P := by repeat (first | (with_reducible first | exact HB.out | apply bA | apply bN | apply bD | refine below_set ?_ GE620.out) | exact HB.out)) : P := h
theorem qq153 {P : Prop} (h : P := by repeat (first | (with_reducible first | exact HB.out | apply bA | apply bN | apply bD | refine below_set ?_ GE614.out) | exact HB.out)) : P := h
theorem qq154 {P : Prop} (h : P := by repeat (first | (with_reducible first | exact HB.out | apply bA | apply bN | apply bD | refine below_set ?_ GE587.out) | exact HB.out)) : P := h
theorem qq155 {P : Prop} (h : P := by repeat (first | (with_reducible first | exact HB.out | apply bA | apply bN | apply bD | refine below_set ?_ GE553.out) | exact HB.out)) : P := h
theorem qq156 {P : Prop} (h : P := by repeat (first | (with_reducible first | exact HB.out | apply bA | apply bN | apply bD | refine below_set ?_ GE489.out) | exact HB.out)) : P := h
theorem qq157 {P : Prop} (h : P := by repeat (first | (with_reducible first | exact HB.out | apply bA | apply bN | apply bD | refine below_set ?_ GE485.out) | exact HB.out)) : P := h
theorem qq158 {P : Prop} (h : P := by repeat (first | (with_reducible first | exact HB.out | apply bA | apply bN | apply bD | refine below_set ?_ GE461.out) | exact HB.out)) : P := h
theorem qq159 {P : Prop} (h : P := by repeat (first | (with_reducible first | exact HB.out | apply bA | apply bN | apply bD | refine below_set ?_ GE441.out) | exact HB.out)) : P := h
theorem qq160 {P : Prop} (h : P := by repeat (first | (with_reducible first | exact HB.out | apply bA | apply bN | apply bD | refine below_set ?_ GE418.out) | exact HB.out)) : P := h
theorem qq161 {P : Prop} (h : P := by repeat (first | (with_reducible first | exact HB.out | apply bA | apply bN | apply bD | refine below_set ?_ GE412.out) | exact HB.out)) : P := h
theorem qq162 {P : Prop} (h : P := by repeat (first | (with_reducible first | exact HB.out | apply bA | apply bN | apply bD | refine below_set ?_ GE402.out) | exact HB.out)) : P := h
theorem qq163 {P : Prop} (h : P := by repeat (first | (with_reducible first | exact HB.out | apply bA | apply bN | apply bD | refine below_set ?_ GE371.out) | exact HB.out)) : P := h
theorem qq164 {P : Prop} (h : P := by repeat (first | (with_reducible first | exact HB.out | apply bA | apply bN | apply bD | refine below_set ?_ GE354.out) | exact HB.out)) : P := h
theorem qq165 {P : Prop} (h : P := by repeat (first | (with_reducible first | exact HB.out | apply bA | apply bN | apply bD | refine below_set ?_ GE349.out) | exact HB.out)) : P := h
theorem qq166 {P : Prop} (h : P := by repeat (first | (with_reducible first | exact HB.out | apply bA | apply bN | apply bD | refine below_set ?_ GE346.out) | exact HB.out)) : P := h
theorem qq167 {P : Prop} (h : P := by repeat (first | (with_reducible first | exact HB.out | apply bA | apply bN | apply bD | refine below_set ?_ GE343.out) | exact HB.out)) : P := h
theorem qq168 {P : Prop} (h : P := by repeat (first | (with_reducible first | exact HB.out | apply bA | apply bN | apply bD | refine below_set ?_ GE339.out) | exact HB.out)) : P := h
theorem qq169 {P : Prop} (h : P := by repeat (first | (with_reducible first | exact HB.out | apply bA | apply bN | apply bD | refine below_set ?_ GE327.out) | exact HB.out)) : P := h
theorem qq170 {P : Prop} (h : P := by repeat (first | (with_reducible first | exact HB.out | apply bA | apply bN | apply bD | refine below_set ?_ GE193.out) | exact HB.out)) : P := h
theorem qq171 {P : Prop} (h : P := by repeat (first | (with_reducible first | exact HB.out | apply bA | apply bN | apply bD | refine below_set ?_ GE168.out) | exact HB.out)) : P := h
theorem qq172 {P : Prop} (h : P := by repeat (first | (with_reducible first | exact HB.out | apply bA | apply bN | apply bD | refine below_set ?_ GE144.out) | exact HB.out)) : P := h
theorem qq173 {P : Prop} (h : P := by repeat (first | (with_reducible first | exact HB.out | apply bA | apply bN | apply bD | refine below_set ?_ GE141.out) | exact HB.out)) : P := h
theorem qq174 {P : Prop} (h : P := by repeat (first | (with_reducible first | exact HB.out | apply bA | apply bN | apply bD | refine below_set ?_ GE138.out) | exact HB.out)) : P := h
theorem qq175 {P : Prop} (h : P := by repeat (first | (with_reducible first | exact HB.out | apply bA | apply bN | apply bD | refine below_set ?_ GE133.out) | exact HB.out)) : P := h
theorem qq176 {P : Prop} (h : P := by repeat (first | (with_reducible first | exact HB.out | apply bA | apply bN | apply bD | refine below_set ?_ GE103.out) | exact HB.out)) : P := h
theorem qq177 {P : Prop} (h : P := by (try simp only [List.map_toArray,List.map_cons,List.map_nil]);first | done | rfl | (simp only [List.length_drop,List.length_take];rfl)) : P := h
theorem qq178 {P : Prop} (h : P := by (with_reducible repeat (first | apply Kd.Q_alloc | apply Kd.Q_drewN | apply Kd.Q_drew));exact Kd.Q_mono HO642.out (fun _ hk => hk.2)) : P := h
theorem qq179 {P : Prop} (h : P := by repeat (first | exact HR0.out | (with_reducible refine cA ?_ _) | (with_reducible refine cN ?_ _) | (with_reducible refine cD ?_))) : P := h
theorem qq180 {P : Prop} (h : P := by (try simp only [hl5_2]);(try simp only [hl5_3]);(with_reducible repeat (first | apply kA | apply kN | apply kD));exact HO_9.out) : P := h
theorem qq181 {P : Prop} (h : P := by exact (below_size qq197)) : P := h
theorem qq182 {P : Prop} (h : P := by (with_reducible repeat (first | apply kA | apply kN | apply kD));exact Kd.R_mono HO_57.out (fun _ hk => ⟨hk.2,hk.1⟩)) : P := h
theorem qq183 {P : Prop} (h : P := by (with_reducible repeat (first | apply kA | apply kN | apply kD));exact Kd.R_mono HO_7.out (fun _ hk => ⟨hk.2,hk.1⟩)) : P := h
theorem qq184 {P : Prop} (h : P := by (with_reducible repeat (first | apply kA | apply kN | apply kD));exact Kd.R_mono HO_5.out (fun _ hk => ⟨hk.2,hk.1⟩)) : P := h
theorem qq185 {P : Prop} (h : P := by exact qq197) : P := h
theorem qq186 {P : Prop} (h : P := by (with_reducible repeat (first | apply kA | apply kN | apply kD));exact Kd.R_mono HO_5.out (fun _ hk => trivial)) : P := h
theorem qq187 {P : Prop} (h : P := by (with_reducible repeat (first | apply kA | apply kN | apply kD));exact Kd.R_mono HO650.out (fun _ hk => hk.2)) : P := h
theorem qq188 {P : Prop} (h : P := by (with_reducible repeat (first | apply kA | apply kN | apply kD));exact Kd.R_mono HO_7.out (fun _ hk => hk.2)) : P := h
theorem qq189 {P : Prop} (h : P := by (with_reducible repeat (first | apply kA | apply kN | apply kD));exact Kd.R_mono HO_5.out (fun _ hk => hk.2)) : P := h
theorem qq190 {P : Prop} (h : P := by (with_reducible repeat (first | apply Kd.Q_alloc | apply Kd.Q_drewN | apply Kd.Q_drew));exact HO_648002.out) : P := h
theorem qq191 {P : Prop} (h : P := by (with_reducible repeat (first | apply Kd.Q_alloc | apply Kd.Q_drewN | apply Kd.Q_drew));exact HO_267002.out) : P := h
theorem qq192 {P : Prop} (h : P := by repeat (first | (with_reducible first | exact HBW.out | apply bA | apply bN | apply bD) | exact HBW.out)) : P := h
theorem qq193 {P : Prop} (h : P := by (with_reducible repeat (first | apply Kd.Q_alloc | apply Kd.Q_drewN | apply Kd.Q_drew));exact HO672.out) : P := h
theorem qq194 {P : Prop} (h : P := by (with_reducible repeat (first | apply Kd.Q_alloc | apply Kd.Q_drewN | apply Kd.Q_drew));exact HO642.out) : P := h
theorem qq195 {P : Prop} (h : P := by (with_reducible repeat (first | apply Kd.Q_alloc | apply Kd.Q_drewN | apply Kd.Q_drew));exact HO564.out) : P := h
theorem qq196 {P : Prop} (h : P := by (with_reducible repeat (first | apply Kd.Q_alloc | apply Kd.Q_drewN | apply Kd.Q_drew));exact HO391.out) : P := h
theorem qq197 {P : Prop} (h : P := by repeat (first | (with_reducible first | exact HB.out | apply bA | apply bN | apply bD) | exact HB.out)) : P := h
theorem qq198 {P : Prop} (h : P := by (with_reducible repeat (first | apply Kd.V_alloc | apply Kd.V_drewN | apply Kd.V_drew));exact HO_1.out) : P := h
theorem qq199 {P : Prop} (h : P := by (with_reducible repeat (first | apply Kd.Q_alloc | apply Kd.Q_drewN | apply Kd.Q_drew));exact HO_6.out) : P := h
theorem qq200 {P : Prop} (h : P := by (with_reducible repeat (first | apply Kd.V_alloc | apply Kd.V_drewN | apply Kd.V_drew));exact HO1.out) : P := h
theorem qq201 {P : Prop} (h : P := by (with_reducible repeat (first | refine dN ?_ _ | refine dD ?_ | refine dA ?_ _));exact BK689.out) : P := h
theorem qq202 {P : Prop} (h : P := by (with_reducible repeat (first | refine dN ?_ _ | refine dD ?_ | refine dA ?_ _));exact BK688.out) : P := h
theorem qq203 {P : Prop} (h : P := by (with_reducible repeat (first | refine dN ?_ _ | refine dD ?_ | refine dA ?_ _));exact BK687.out) : P := h
theorem qq204 {P : Prop} (h : P := by (with_reducible repeat (first | refine dN ?_ _ | refine dD ?_ | refine dA ?_ _));exact BK647.out) : P := h
theorem qq205 {P : Prop} (h : P := by (with_reducible repeat (first | refine dN ?_ _ | refine dD ?_ | refine dA ?_ _));exact BK632.out) : P := h
theorem qq206 {P : Prop} (h : P := by (with_reducible repeat (first | refine dN ?_ _ | refine dD ?_ | refine dA ?_ _));exact BK631.out) : P := h
theorem qq207 {P : Prop} (h : P := by (with_reducible repeat (first | refine dN ?_ _ | refine dD ?_ | refine dA ?_ _));exact BK630.out) : P := h
theorem qq208 {P : Prop} (h : P := by (with_reducible repeat (first | refine dN ?_ _ | refine dD ?_ | refine dA ?_ _));exact BK620.out) : P := h
theorem qq209 {P : Prop} (h : P := by (with_reducible repeat (first | refine dN ?_ _ | refine dD ?_ | refine dA ?_ _));exact BK614.out) : P := h
theorem qq210 {P : Prop} (h : P := by (with_reducible repeat (first | refine dN ?_ _ | refine dD ?_ | refine dA ?_ _));exact BK571.out) : P := h
theorem qq211 {P : Prop} (h : P := by (with_reducible repeat (first | refine dN ?_ _ | refine dD ?_ | refine dA ?_ _));exact BK555.out) : P := h
theorem qq212 {P : Prop} (h : P := by (with_reducible repeat (first | refine dN ?_ _ | refine dD ?_ | refine dA ?_ _));exact BK554.out) : P := h
theorem qq213 {P : Prop} (h : P := by (with_reducible repeat (first | refine dN ?_ _ | refine dD ?_ | refine dA ?_ _));exact BK553.out) : P := h
theorem qq214 {P : Prop} (h : P := by (with_reducible repeat (first | refine dN ?_ _ | refine dD ?_ | refine dA ?_ _));exact BK545.out) : P := h
theorem qq215 {P : Prop} (h : P := by (with_reducible repeat (first | refine dN ?_ _ | refine dD ?_ | refine dA ?_ _));exact BK528.out) : P := h
theorem qq216 {P : Prop} (h : P := by (with_reducible repeat (first | refine dN ?_ _ | refine dD ?_ | refine dA ?_ _));exact BK527.out) : P := h
theorem qq217 {P : Prop} (h : P := by (with_reducible repeat (first | refine dN ?_ _ | refine dD ?_ | refine dA ?_ _));exact BK526.out) : P := h
theorem qq218 {P : Prop} (h : P := by (with_reducible repeat (first | refine dN ?_ _ | refine dD ?_ | refine dA ?_ _));exact BK494.out) : P := h
theorem qq219 {P : Prop} (h : P := by (with_reducible repeat (first | refine dN ?_ _ | refine dD ?_ | refine dA ?_ _));exact BK489.out) : P := h
theorem qq220 {P : Prop} (h : P := by (with_reducible repeat (first | refine dN ?_ _ | refine dD ?_ | refine dA ?_ _));exact BK475.out) : P := h
theorem qq221 {P : Prop} (h : P := by (with_reducible repeat (first | refine dN ?_ _ | refine dD ?_ | refine dA ?_ _));exact BK447.out) : P := h
theorem qq222 {P : Prop} (h : P := by (with_reducible repeat (first | refine dN ?_ _ | refine dD ?_ | refine dA ?_ _));exact BK441.out) : P := h
theorem qq223 {P : Prop} (h : P := by (with_reducible repeat (first | refine dN ?_ _ | refine dD ?_ | refine dA ?_ _));exact BK418.out) : P := h
theorem qq224 {P : Prop} (h : P := by (with_reducible repeat (first | refine dN ?_ _ | refine dD ?_ | refine dA ?_ _));exact BK412.out) : P := h
theorem qq225 {P : Prop} (h : P := by (with_reducible repeat (first | refine dN ?_ _ | refine dD ?_ | refine dA ?_ _));exact BK402.out) : P := h
theorem qq226 {P : Prop} (h : P := by (with_reducible repeat (first | refine dN ?_ _ | refine dD ?_ | refine dA ?_ _));exact BK371.out) : P := h
theorem qq227 {P : Prop} (h : P := by (with_reducible repeat (first | refine dN ?_ _ | refine dD ?_ | refine dA ?_ _));exact BK354.out) : P := h
theorem qq228 {P : Prop} (h : P := by (with_reducible repeat (first | refine dN ?_ _ | refine dD ?_ | refine dA ?_ _));exact BK349.out) : P := h
theorem qq229 {P : Prop} (h : P := by (with_reducible repeat (first | refine dN ?_ _ | refine dD ?_ | refine dA ?_ _));exact BK346.out) : P := h
theorem qq230 {P : Prop} (h : P := by (with_reducible repeat (first | refine dN ?_ _ | refine dD ?_ | refine dA ?_ _));exact BK343.out) : P := h
theorem qq231 {P : Prop} (h : P := by (with_reducible repeat (first | refine dN ?_ _ | refine dD ?_ | refine dA ?_ _));exact BK311.out) : P := h
theorem qq232 {P : Prop} (h : P := by (with_reducible repeat (first | refine dN ?_ _ | refine dD ?_ | refine dA ?_ _));exact BK266.out) : P := h
theorem qq233 {P : Prop} (h : P := by (with_reducible repeat (first | refine dN ?_ _ | refine dD ?_ | refine dA ?_ _));exact BK258.out) : P := h
theorem qq234 {P : Prop} (h : P := by (with_reducible repeat (first | refine dN ?_ _ | refine dD ?_ | refine dA ?_ _));exact BK238.out) : P := h
theorem qq235 {P : Prop} (h : P := by (with_reducible repeat (first | refine dN ?_ _ | refine dD ?_ | refine dA ?_ _));exact BK230.out) : P := h
theorem qq236 {P : Prop} (h : P := by (with_reducible repeat (first | refine dN ?_ _ | refine dD ?_ | refine dA ?_ _));exact BK213.out) : P := h
theorem qq237 {P : Prop} (h : P := by (with_reducible repeat (first | refine dN ?_ _ | refine dD ?_ | refine dA ?_ _));exact BK206.out) : P := h
theorem qq238 {P : Prop} (h : P := by (with_reducible repeat (first | refine dN ?_ _ | refine dD ?_ | refine dA ?_ _));exact BK193.out) : P := h
theorem qq239 {P : Prop} (h : P := by (with_reducible repeat (first | refine dN ?_ _ | refine dD ?_ | refine dA ?_ _));exact BK168.out) : P := h
theorem qq240 {P : Prop} (h : P := by (with_reducible repeat (first | refine dN ?_ _ | refine dD ?_ | refine dA ?_ _));exact BK144.out) : P := h
theorem qq241 {P : Prop} (h : P := by (with_reducible repeat (first | refine dN ?_ _ | refine dD ?_ | refine dA ?_ _));exact BK141.out) : P := h
theorem qq242 {P : Prop} (h : P := by (with_reducible repeat (first | refine dN ?_ _ | refine dD ?_ | refine dA ?_ _));exact BK138.out) : P := h
theorem qq243 {P : Prop} (h : P := by (with_reducible repeat (first | refine dN ?_ _ | refine dD ?_ | refine dA ?_ _));exact BK133.out) : P := h
theorem qq244 {P : Prop} (h : P := by have:=HJ2.out;have:=HJ12.out;have:=HJ17.out;have:=HJ25.out;first | omega | exact Nat.le_refl _) : P := h
theorem qq245 {P : Prop} (h : P := by first | (simp only [putAll,Act.put,sA,s0,s1];done) | (simp only [putAll,Act.put,sA,s0,s1];rfl)) : P := h
theorem qq246 {P : Prop} (h : P := by first | rfl | (simp [errW_none,errW_some] <;> rfl) | (simp [*,errW_none,errW_some] <;> rfl)) : P := h
theorem qq247 {P : Prop} (h : P := by exact qq279) : P := h
theorem qq248 {P : Prop} (h : P := by exact (Reps.one (show Kd.M (Kd.int .i64) _ _ _ a2 [.int .i64 a2] from rfl) (Reps.none _ _))) : P := h
theorem qq249 {P : Prop} (h : P := by exact (Reps.one (show Kd.M (Kd.int .i64) _ _ _ a1 [.int .i64 a1] from rfl) (Reps.none _ _))) : P := h
theorem qq250 {P : Prop} (h : P := by exact qq282) : P := h
theorem qq251 {P : Prop} (h : P := by exact qq283) : P := h
theorem qq252 {P : Prop} (h : P := by exact qq285) : P := h
theorem qq253 {P : Prop} (h : P := by (with_reducible repeat (first | apply kA | apply kN | apply kD));exact HO_214002.out) : P := h
theorem qq254 {P : Prop} (h : P := by (with_reducible repeat (first | apply kA | apply kN | apply kD));exact HO_57.out) : P := h
theorem qq255 {P : Prop} (h : P := by (with_reducible repeat (first | apply kA | apply kN | apply kD));exact HO_29.out) : P := h
theorem qq256 {P : Prop} (h : P := by (with_reducible repeat (first | apply kA | apply kN | apply kD));exact HO_25.out) : P := h
theorem qq257 {P : Prop} (h : P := by (with_reducible repeat (first | apply kA | apply kN | apply kD));exact HO686.out) : P := h
theorem qq258 {P : Prop} (h : P := by (with_reducible repeat (first | apply kA | apply kN | apply kD));exact HO683.out) : P := h
theorem qq259 {P : Prop} (h : P := by (with_reducible repeat (first | apply kA | apply kN | apply kD));exact HO676.out) : P := h
theorem qq260 {P : Prop} (h : P := by (with_reducible repeat (first | apply kA | apply kN | apply kD));exact HO650.out) : P := h
theorem qq261 {P : Prop} (h : P := by (with_reducible repeat (first | apply kA | apply kN | apply kD));exact HO646.out) : P := h
theorem qq262 {P : Prop} (h : P := by (with_reducible repeat (first | apply kA | apply kN | apply kD));exact HO606.out) : P := h
theorem qq263 {P : Prop} (h : P := by (with_reducible repeat (first | apply kA | apply kN | apply kD));exact HO603.out) : P := h
theorem qq264 {P : Prop} (h : P := by (with_reducible repeat (first | apply kA | apply kN | apply kD));exact HO568.out) : P := h
theorem qq265 {P : Prop} (h : P := by (with_reducible repeat (first | apply kA | apply kN | apply kD));exact HO542.out) : P := h
theorem qq266 {P : Prop} (h : P := by (with_reducible repeat (first | apply kA | apply kN | apply kD));exact HO534.out) : P := h
theorem qq267 {P : Prop} (h : P := by (with_reducible repeat (first | apply kA | apply kN | apply kD));exact HO450.out) : P := h
theorem qq268 {P : Prop} (h : P := by (with_reducible repeat (first | apply kA | apply kN | apply kD));exact HO425.out) : P := h
theorem qq269 {P : Prop} (h : P := by (with_reducible repeat (first | apply kA | apply kN | apply kD));exact HO422.out) : P := h
theorem qq270 {P : Prop} (h : P := by (with_reducible repeat (first | apply kA | apply kN | apply kD));exact HO407.out) : P := h
theorem qq271 {P : Prop} (h : P := by (with_reducible repeat (first | apply kA | apply kN | apply kD));exact HO358.out) : P := h
theorem qq272 {P : Prop} (h : P := by (with_reducible repeat (first | apply kA | apply kN | apply kD));exact HO295.out) : P := h
theorem qq273 {P : Prop} (h : P := by (with_reducible repeat (first | apply kA | apply kN | apply kD));exact HO272.out) : P := h
theorem qq274 {P : Prop} (h : P := by (with_reducible repeat (first | apply kA | apply kN | apply kD));exact HO269.out) : P := h
theorem qq275 {P : Prop} (h : P := by (with_reducible repeat (first | apply kA | apply kN | apply kD));exact HO263.out) : P := h
theorem qq276 {P : Prop} (h : P := by (with_reducible repeat (first | apply kA | apply kN | apply kD));exact HO235.out) : P := h
theorem qq277 {P : Prop} (h : P := by (with_reducible repeat (first | apply kA | apply kN | apply kD));exact HO216.out) : P := h
theorem qq278 {P : Prop} (h : P := by (with_reducible repeat (first | apply kA | apply kN | apply kD));exact HO196.out) : P := h
theorem qq279 {P : Prop} (h : P := by (with_reducible repeat (first | apply kA | apply kN | apply kD));exact HO159.out) : P := h
theorem qq280 {P : Prop} (h : P := by (with_reducible repeat (first | apply kA | apply kN | apply kD));exact HO147.out) : P := h
theorem qq281 {P : Prop} (h : P := by have:=HJ2.out;have:=HJ12.out;have:=HJ17.out;first | omega | exact Nat.le_refl _) : P := h
theorem qq282 {P : Prop} (h : P := by (with_reducible repeat (first | apply kA | apply kN | apply kD));exact HO_8.out) : P := h
theorem qq283 {P : Prop} (h : P := by (with_reducible repeat (first | apply kA | apply kN | apply kD));exact HO_7.out) : P := h
theorem qq284 {P : Prop} (h : P := by (with_reducible repeat (first | apply kA | apply kN | apply kD));exact HO_6.out) : P := h
theorem qq285 {P : Prop} (h : P := by (with_reducible repeat (first | apply kA | apply kN | apply kD));exact HO_5.out) : P := h
theorem qq286 {P : Prop} (h : P := by (with_reducible repeat (first | apply kA | apply kN | apply kD));exact HO_3.out) : P := h
theorem qq287 {P : Prop} (h : P := by have:=HJ5.out;have:=HK2.out;have:=HJ44.out;first | omega | exact Nat.le_refl _) : P := h
theorem qq288 {P : Prop} (h : P := by have:=HJ2.out;have:=HJ12.out;first | omega | exact Nat.le_refl _) : P := h
theorem qq289 {P : Prop} (h : P := by have:=HJ5.out;have:=HK2.out;first | omega | exact Nat.le_refl _) : P := h
theorem qq290 {P : Prop} (h : P := by have:=HK1.out;have:=HK2.out;have:=HK3.out;have:=HK4.out;omega) : P := h
theorem qq291 {P : Prop} (h : P := by repeat (first | exact Drawn0.refl _ | apply Drawn0.step)) : P := h
theorem qq292 {P : Prop} (h : P := by have:=HK1.out;first | omega | exact Nat.le_refl _) : P := h
theorem qq293 {P : Prop} (h : P := by first | (with_reducible assumption) | assumption) : P := h
theorem qq294 {P : Prop} (h : P := by have:=HK1.out;have:=HK2.out;have:=HK3.out;omega) : P := h
theorem qq295 {P : Prop} (h : P := by first | rfl | (simp;done) | (simp [*];done)) : P := h
theorem qq296 {P : Prop} (h : P := by first | (go_simp;done) | (go_simp;rfl)) : P := h
theorem qq297 {P : Prop} (h : P := by exact (Kd.Q_reads' HO_648002.out).2.1) : P := h
theorem qq298 {P : Prop} (h : P := by first | omega | exact Nat.le_refl _) : P := h
theorem qq299 {P : Prop} (h : P := by have:=HK1.out;have:=HK2.out;omega) : P := h
theorem qq300 {P : Prop} (h : P := by have:=HJ3.out;have:=HK2.out;omega) : P := h
theorem qq301 {P : Prop} (h : P := by exact (Kd.R_reads' HO683.out).2.1) : P := h
theorem qq302 {P : Prop} (h : P := by exact (Kd.R_reads' HO676.out).2.1) : P := h
theorem qq303 {P : Prop} (h : P := by exact (Kd.R_reads' HO646.out).2.1) : P := h
theorem qq304 {P : Prop} (h : P := by exact (Kd.R_reads' HO422.out).2.1) : P := h
theorem qq305 {P : Prop} (h : P := by exact (Kd.Q_reads' HO672.out).2.1) : P := h
theorem qq306 {P : Prop} (h : P := by exact (Kd.Q_reads' HO642.out).2.1) : P := h
theorem qq307 {P : Prop} (h : P := by exact (Kd.V_reads' HO_1.out).2.1) : P := h
theorem qq308 {P : Prop} (h : P := by exact (fun _ _ => trivial)) : P := h
theorem qq309 {P : Prop} (h : P := by have:=LMc39.out;omega) : P := h
theorem qq310 {P : Prop} (h : P := by exact (Reps.none _ _)) : P := h
theorem qq311 {P : Prop} (h : P := by have:=HK1.out;omega) : P := h
theorem qq312 {P : Prop} (h : P := by exact HC0_2.out) : P := h
end Go.Proofs.Ytcbkknpmeknppaa.PFnPlans
