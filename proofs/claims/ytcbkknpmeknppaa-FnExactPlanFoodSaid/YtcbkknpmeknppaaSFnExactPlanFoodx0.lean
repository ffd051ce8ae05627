/- Contracts of functions that the law FnExactPlanFood reaches, for its row: lines that the kit's printer wrote for this claim, set shorter by a program of this session (own.py), and what fell in Lean proved anew. Lean checks them. -/
import Derived.Test.YtcbkknpmeknppaaProg
import Derived.Below
import Derived.Deep.Draws
import Derived.Deep.AppendLies
import Derived.Maps.AppendAt
import Derived.OwnWalk
import Derived.Laws.BytesArg
import Derived.Laws.MakeOwn
import Derived.Laws.OwnMore
import Derived.Deep.OwnRows
import Derived.Tactics
import Derived.Lib.ConvBytes
import Derived.Laws.Slices
import Derived.WalkKit
import Derived.KernelRfl
import Derived.RowKit3
import Derived.Deep.LoopGhost
import Derived.Deep.QuietTactic
import Derived.BigQuiet
import Derived.WideLaws
import Derived.Deep.DeepCutAuto
import Derived.Deep.CutBlock
import Derived.Deep.RegionHeld3
import Derived.Laws.Rows
import Derived.Lib.AppendStr
import Derived.ArgAppend
import Derived.Laws.IdiomCopy
import Derived.OrdersHeld
import Derived.Laws.BitsLemmas
import Derived.RowKit
import Derived.Test.YtcbkknpmeknppaaWWords
import Derived.Test.YtcbkknpmeknppaaWLast
import Derived.Test.YtcbkknpmeknppaaWTab
import Derived.Test.YtcbkknpmeknppaaWFour
import Derived.Test.YtcbkknpmeknppaaWQPut
import Derived.Test.YtcbkknpmeknppaaWApart
import Derived.Test.YtcbkknpmeknppaaWArr
import Derived.Test.YtcbkknpmeknppaaWZeros
import Derived.Test.YtcbkknpmeknppaaWFoot
import Derived.Test.YtcbkknpmeknppaaWKept
import Derived.Test.YtcbkknpmeknppaaWShare
import Derived.Test.YtcbkknpmeknppaaWN
import Derived.Test.YtcbkknpmeknppaaWFootNe
import Derived.Test.YtcbkknpmeknppaaWAt
import Derived.Test.YtcbkknpmeknppaaWEqStruct
import Derived.Test.YtcbkknpmeknppaaWRepsOne
import Derived.Test.YtcbkknpmeknppaaWInv
import Derived.Test.YtcbkknpmeknppaaWInvWords
import Derived.Test.YtcbkknpmeknppaaWGuard
import Derived.Test.YtcbkknpmeknppaaWNEv
import Derived.Test.YtcbkknpmeknppaaWMore
namespace Go.Proofs.Ytcbkknpmeknppaa.PFnExactPlanFood
open Go.RowKit Go.Proofs.YtcbkknpmeknppaaW.PrintWords Go.Proofs.YtcbkknpmeknppaaW.PrintLast Go.Proofs.YtcbkknpmeknppaaW.PrintMore
attribute [local go_sem] max2_int min2_int max_two min_two max_three min_three max_four min_four   -- for this text's walks alone
set_option linter.unusedVariables false
set_option linter.unusedSimpArgs false



theorem ct {w w' : World} {a : Addr} {v : Value} (h : Below w.heap.size w w') (e : w.cell? a = some v) : w'.cell? a = some v := (h.cell (World.block_lt_of_cell? w _ e)).trans e
theorem sA {α : Type} (l : List α) (i : Nat) (a : α) : l.toArray.setIfInBounds i a = (l.set i a).toArray := List.setIfInBounds_toArray ..
theorem s0 {α : Type} {x a : α} {xs : List α} : (x :: xs).set 0 a = a :: xs := rfl
theorem s1 {α : Type} {n : Nat} {x a : α} {xs : List α} : (x :: xs).set (n + 1) a = x :: xs.set n a := rfl
abbrev am {P : Prop} (h : P) : Aside0 P := ⟨h⟩
abbrev bl := @World.block_lt_of_cell?
abbrev bA := @below_alloc
abbrev bN := @pw_below_drewN
abbrev bD := @below_drew1
abbrev kA := @Kd.R_alloc
abbrev kN := @Kd.R_drewN
abbrev kD := @Kd.R_drew
abbrev cA := @Kd.C_alloc
abbrev cN := @Kd.C_drewN
abbrev cD := @Kd.C_drew
abbrev dN := @blk_drewN
abbrev dD := @blk_drew
abbrev dA := @blk_alloc
abbrev bS := @Option.bind_eq_some_iff
abbrev odt := @of_decide_eq_true
theorem bcl2 {w : World} {g : Nat} {t : TypeId} {x0 x1 : Value} (h : w.heap[g]? = some (.cells #[x0, x1] t (0, 0))) : w.cell? ⟨g, 0, none⟩ = some x0 ∧ w.cell? ⟨g, 1, none⟩ = some x1 ∧ w.frozen? ⟨g, 0, none⟩ = false ∧ w.frozen? ⟨g, 1, none⟩ = false := ⟨(blk_cell h 0).trans rfl, (blk_cell h 1).trans rfl, blk_frozen h 0, blk_frozen h 1⟩
theorem bcl3 {w : World} {g : Nat} {t : TypeId} {x0 x1 x2 : Value} (h : w.heap[g]? = some (.cells #[x0, x1, x2] t (0, 0))) : w.cell? ⟨g, 0, none⟩ = some x0 ∧ w.cell? ⟨g, 1, none⟩ = some x1 ∧ w.cell? ⟨g, 2, none⟩ = some x2 ∧ w.frozen? ⟨g, 0, none⟩ = false ∧ w.frozen? ⟨g, 1, none⟩ = false ∧ w.frozen? ⟨g, 2, none⟩ = false := ⟨(blk_cell h 0).trans rfl, (blk_cell h 1).trans rfl, (blk_cell h 2).trans rfl, blk_frozen h 0, blk_frozen h 1, blk_frozen h 2⟩
theorem bcl4 {w : World} {g : Nat} {t : TypeId} {x0 x1 x2 x3 : Value} (h : w.heap[g]? = some (.cells #[x0, x1, x2, x3] t (0, 0))) : w.cell? ⟨g, 0, none⟩ = some x0 ∧ w.cell? ⟨g, 1, none⟩ = some x1 ∧ w.cell? ⟨g, 2, none⟩ = some x2 ∧ w.cell? ⟨g, 3, none⟩ = some x3 ∧ w.frozen? ⟨g, 0, none⟩ = false ∧ w.frozen? ⟨g, 1, none⟩ = false ∧ w.frozen? ⟨g, 2, none⟩ = false ∧ w.frozen? ⟨g, 3, none⟩ = false := ⟨(blk_cell h 0).trans rfl, (blk_cell h 1).trans rfl, (blk_cell h 2).trans rfl, (blk_cell h 3).trans rfl, blk_frozen h 0, blk_frozen h 1, blk_frozen h 2, blk_frozen h 3⟩
theorem pV {P : Program} {ops : Array Oper} {Q : Exit → Act → World → Prop} {md : Region.Mode} {S : World → Prop} {ds : List Nat} {i : Nat} {N : Option Tmp} {oi : Oper} {v : Value} {fuel : Nat} {l : Array Bool} {a : Act} {w : World} {a' : Act} (l' : Array Bool) (hi : ops[i]? = some oi) (hN : oi.dst = N) (hc : anyB md ops l l' i = true) (h : wpAnyLast P md ops Q S ds fuel l' a' w) (hQ : ∀ c a w, Q (.panic c) (a.put oi.dst v) w → Q (.panic c) a w := by exact fun _ _ _ h => h) (hw : Region.wanted oi (yielded ops a.tmps) = true := by rfl) (hv : ∀ w', (execOp a.eval oi).run P w' = .ok (.value v) w' := by intro w'; go_simp; (with_reducible rfl)) (ha : a.put N v = a' := by simp only [Act.put, sA, s0, s1, i64_w, i32_w]; rfl) : wpAnyLast P md ops Q S ds (fuel + 1) l a w := pure_ l' hi hN hc hQ (Or.inl ⟨hw, hv⟩) ha h
theorem pW {P : Program} {ops : Array Oper} {Q : Exit → Act → World → Prop} {md : Region.Mode} {S : World → Prop} {ds : List Nat} {i : Nat} {N : Option Tmp} {oi : Oper} {fuel : Nat} {l : Array Bool} {a : Act} {w : World} {a' : Act} (l' : Array Bool) (hi : ops[i]? = some oi) (hN : oi.dst = N) (hc : anyB md ops l l' i = true) (h : wpAnyLast P md ops Q S ds fuel l' a' w) (hQ : ∀ c a w, Q (.panic c) (a.put oi.dst undef) w → Q (.panic c) a w := by exact fun _ _ _ h => h) (hw : Region.wanted oi (yielded ops a.tmps) = false := by rfl) (ha : a.put N undef = a' := by simp only [Act.put, sA, s0, s1, i64_w, i32_w]; rfl) : wpAnyLast P md ops Q S ds (fuel + 1) l a w := pure_ l' hi hN hc hQ (Or.inr ⟨hw, rfl⟩) ha h
theorem tV2 {P : Program} {ops : Array Oper} {Q : Exit → Act → World → Prop} {md : Region.Mode} {S : World → Prop} {ds : List Nat} {i : Nat} {N : Option Tmp} {oi : Oper} {v : Value} {fuel : Nat} {l : Array Bool} {a : Act} {w : World} {a' : Act} (l' : Array Bool) (hi : ops[i]? = some oi) (hN : oi.dst = N) (hc : takeB md ops ds l l' i = true) (hS : S w) (h : wpAnyLast P md ops Q S ds fuel l' a' w) (hQ : ∀ c a w, Q (.panic c) (a.put oi.dst v) w → Q (.panic c) a w := by exact fun _ _ _ h => h) (hw : Region.wanted oi (yielded ops a.tmps) = true := by rfl) (hv : ∀ w', S w' → (execOp a.eval oi).run P w' = .ok (.value v) w' := by rintro w' ⟨s0, s1⟩; go_simp; with_reducible rfl) (ha : a.put N v = a' := by simp only [Act.put, sA, s0, s1, i64_w, i32_w]; rfl) : wpAnyLast P md ops Q S ds (fuel + 1) l a w := take_ l' hi hN hc hQ (Or.inl ⟨hw, hv⟩) hS ha h
theorem tV3 {P : Program} {ops : Array Oper} {Q : Exit → Act → World → Prop} {md : Region.Mode} {S : World → Prop} {ds : List Nat} {i : Nat} {N : Option Tmp} {oi : Oper} {v : Value} {fuel : Nat} {l : Array Bool} {a : Act} {w : World} {a' : Act} (l' : Array Bool) (hi : ops[i]? = some oi) (hN : oi.dst = N) (hc : takeB md ops ds l l' i = true) (hS : S w) (h : wpAnyLast P md ops Q S ds fuel l' a' w) (hQ : ∀ c a w, Q (.panic c) (a.put oi.dst v) w → Q (.panic c) a w := by exact fun _ _ _ h => h) (hw : Region.wanted oi (yielded ops a.tmps) = true := by rfl) (hv : ∀ w', S w' → (execOp a.eval oi).run P w' = .ok (.value v) w' := by rintro w' ⟨s0, s1, s2⟩; go_simp; with_reducible rfl) (ha : a.put N v = a' := by simp only [Act.put, sA, s0, s1, i64_w, i32_w]; rfl) : wpAnyLast P md ops Q S ds (fuel + 1) l a w := take_ l' hi hN hc hQ (Or.inl ⟨hw, hv⟩) hS ha h
theorem tV4 {P : Program} {ops : Array Oper} {Q : Exit → Act → World → Prop} {md : Region.Mode} {S : World → Prop} {ds : List Nat} {i : Nat} {N : Option Tmp} {oi : Oper} {v : Value} {fuel : Nat} {l : Array Bool} {a : Act} {w : World} {a' : Act} (l' : Array Bool) (hi : ops[i]? = some oi) (hN : oi.dst = N) (hc : takeB md ops ds l l' i = true) (hS : S w) (h : wpAnyLast P md ops Q S ds fuel l' a' w) (hQ : ∀ c a w, Q (.panic c) (a.put oi.dst v) w → Q (.panic c) a w := by exact fun _ _ _ h => h) (hw : Region.wanted oi (yielded ops a.tmps) = true := by rfl) (hv : ∀ w', S w' → (execOp a.eval oi).run P w' = .ok (.value v) w' := by rintro w' ⟨s0, s1, s2, s3⟩; go_simp; with_reducible rfl) (ha : a.put N v = a' := by simp only [Act.put, sA, s0, s1, i64_w, i32_w]; rfl) : wpAnyLast P md ops Q S ds (fuel + 1) l a w := take_ l' hi hN hc hQ (Or.inl ⟨hw, hv⟩) hS ha h
theorem tV5 {P : Program} {ops : Array Oper} {Q : Exit → Act → World → Prop} {md : Region.Mode} {S : World → Prop} {ds : List Nat} {i : Nat} {N : Option Tmp} {oi : Oper} {v : Value} {fuel : Nat} {l : Array Bool} {a : Act} {w : World} {a' : Act} (l' : Array Bool) (hi : ops[i]? = some oi) (hN : oi.dst = N) (hc : takeB md ops ds l l' i = true) (hS : S w) (h : wpAnyLast P md ops Q S ds fuel l' a' w) (hQ : ∀ c a w, Q (.panic c) (a.put oi.dst v) w → Q (.panic c) a w := by exact fun _ _ _ h => h) (hw : Region.wanted oi (yielded ops a.tmps) = true := by rfl) (hv : ∀ w', S w' → (execOp a.eval oi).run P w' = .ok (.value v) w' := by rintro w' ⟨s0, s1, s2, s3, s4⟩; go_simp; with_reducible rfl) (ha : a.put N v = a' := by simp only [Act.put, sA, s0, s1, i64_w, i32_w]; rfl) : wpAnyLast P md ops Q S ds (fuel + 1) l a w := take_ l' hi hN hc hQ (Or.inl ⟨hw, hv⟩) hS ha h
theorem tV6 {P : Program} {ops : Array Oper} {Q : Exit → Act → World → Prop} {md : Region.Mode} {S : World → Prop} {ds : List Nat} {i : Nat} {N : Option Tmp} {oi : Oper} {v : Value} {fuel : Nat} {l : Array Bool} {a : Act} {w : World} {a' : Act} (l' : Array Bool) (hi : ops[i]? = some oi) (hN : oi.dst = N) (hc : takeB md ops ds l l' i = true) (hS : S w) (h : wpAnyLast P md ops Q S ds fuel l' a' w) (hQ : ∀ c a w, Q (.panic c) (a.put oi.dst v) w → Q (.panic c) a w := by exact fun _ _ _ h => h) (hw : Region.wanted oi (yielded ops a.tmps) = true := by rfl) (hv : ∀ w', S w' → (execOp a.eval oi).run P w' = .ok (.value v) w' := by rintro w' ⟨s0, s1, s2, s3, s4, s5⟩; go_simp; with_reducible rfl) (ha : a.put N v = a' := by simp only [Act.put, sA, s0, s1, i64_w, i32_w]; rfl) : wpAnyLast P md ops Q S ds (fuel + 1) l a w := take_ l' hi hN hc hQ (Or.inl ⟨hw, hv⟩) hS ha h
theorem tV7 {P : Program} {ops : Array Oper} {Q : Exit → Act → World → Prop} {md : Region.Mode} {S : World → Prop} {ds : List Nat} {i : Nat} {N : Option Tmp} {oi : Oper} {v : Value} {fuel : Nat} {l : Array Bool} {a : Act} {w : World} {a' : Act} (l' : Array Bool) (hi : ops[i]? = some oi) (hN : oi.dst = N) (hc : takeB md ops ds l l' i = true) (hS : S w) (h : wpAnyLast P md ops Q S ds fuel l' a' w) (hQ : ∀ c a w, Q (.panic c) (a.put oi.dst v) w → Q (.panic c) a w := by exact fun _ _ _ h => h) (hw : Region.wanted oi (yielded ops a.tmps) = true := by rfl) (hv : ∀ w', S w' → (execOp a.eval oi).run P w' = .ok (.value v) w' := by rintro w' ⟨s0, s1, s2, s3, s4, s5, s6⟩; go_simp; with_reducible rfl) (ha : a.put N v = a' := by simp only [Act.put, sA, s0, s1, i64_w, i32_w]; rfl) : wpAnyLast P md ops Q S ds (fuel + 1) l a w := take_ l' hi hN hc hQ (Or.inl ⟨hw, hv⟩) hS ha h
theorem tV8 {P : Program} {ops : Array Oper} {Q : Exit → Act → World → Prop} {md : Region.Mode} {S : World → Prop} {ds : List Nat} {i : Nat} {N : Option Tmp} {oi : Oper} {v : Value} {fuel : Nat} {l : Array Bool} {a : Act} {w : World} {a' : Act} (l' : Array Bool) (hi : ops[i]? = some oi) (hN : oi.dst = N) (hc : takeB md ops ds l l' i = true) (hS : S w) (h : wpAnyLast P md ops Q S ds fuel l' a' w) (hQ : ∀ c a w, Q (.panic c) (a.put oi.dst v) w → Q (.panic c) a w := by exact fun _ _ _ h => h) (hw : Region.wanted oi (yielded ops a.tmps) = true := by rfl) (hv : ∀ w', S w' → (execOp a.eval oi).run P w' = .ok (.value v) w' := by rintro w' ⟨s0, s1, s2, s3, s4, s5, s6, s7⟩; go_simp; with_reducible rfl) (ha : a.put N v = a' := by simp only [Act.put, sA, s0, s1, i64_w, i32_w]; rfl) : wpAnyLast P md ops Q S ds (fuel + 1) l a w := take_ l' hi hN hc hQ (Or.inl ⟨hw, hv⟩) hS ha h
theorem qT {P : Prop} (h : P := by exact any_of HT_.out (by kernel_rfl)) : P := h
abbrev Y : Bool := true
abbrev Z : Bool := false
def errW : Option Int → Value
 | none => .nilIface
 | some c => .iface 0 (.int .i64 c)
theorem errW_none : errW none = .nilIface := rfl
theorem errW_some (c : Int) : errW (some c) = .iface 0 (.int .i64 c) := rfl

theorem info3 : (Try.prog.info? 3).map (fun i => (i.zero, i.size, i.bytes)) = some (some (.int .i64 0), 1, 8) := by kernel_rfl
theorem info4 : (Try.prog.info? 4).map (fun i => (i.zero, i.size, i.bytes)) = some (some (.bool false), 1, 1) := by kernel_rfl
theorem info76 : (Try.prog.info? 76).map (fun i => (i.zero, i.size, i.bytes)) = some (some (.agg #[(.int .i64 0), (.int .i64 0)]), 2, 16) := by kernel_rfl
theorem info112 : (Try.prog.info? 112).map (fun i => (i.zero, i.size, i.bytes)) = some (some (.agg #[(.int .i64 0), (.int .i64 0), (.int .i64 0), (.bool false)]), 4, 32) := by kernel_rfl
-- the values' own types
/-! #### struct type 112 -/
structure S112 where
 f0 : Int
 f1 : Int
 f2 : Int
 f3 : Bool
def z112 : S112 := ⟨(0 : Int), (0 : Int), (0 : Int), false⟩
def k112 : Kd S112 := Kd.iso (Kd.pair (Kd.int .i64) (Kd.pair (Kd.int .i64) (Kd.pair (Kd.int .i64) Kd.bool))) (fun x : S112 => (x.f0, x.f1, x.f2, x.f3))
theorem k112_open {w : World} {x : S112} {cs : List Value} (h : k112.K w x cs) : cs = [.int .i64 x.f0, .int .i64 x.f1, .int .i64 x.f2, .bool x.f3] := by
 obtain ⟨_,_,rfl,rfl,⟨_,_,rfl,rfl,⟨_,_,rfl,rfl,rfl⟩⟩⟩:=h
 exact rfl
theorem k112_openM {w : World} {base : Nat} {ok : Nat → Prop} {x : S112} {cs : List Value} (h : k112.M w base ok x cs) : cs = [.int .i64 x.f0, .int .i64 x.f1, .int .i64 x.f2, .bool x.f3] := by
 obtain ⟨_,_,rfl,rfl,⟨_,_,rfl,rfl,⟨_,_,rfl,rfl,rfl⟩⟩⟩:=h
 exact rfl
theorem k112_mkM (w : World) (base : Nat) (ok : Nat → Prop) (x : S112)  : k112.M w base ok x [.int .i64 x.f0, .int .i64 x.f1, .int .i64 x.f2, .bool x.f3] := ⟨[.int .i64 x.f0], [.int .i64 x.f1, .int .i64 x.f2, .bool x.f3], rfl, rfl, ⟨[.int .i64 x.f1], [.int .i64 x.f2, .bool x.f3], rfl, rfl, ⟨[.int .i64 x.f2], [.bool x.f3], rfl, rfl, rfl⟩⟩⟩
def rd_T112 (xs : List S112) (i : Int) : S112 := xs.getD i.toNat z112
theorem at_T112 {w : World} {A : Option Addr} {n : Nat} {xs : List S112} (h : Kd.C k112 w A n xs) (i : Int) (h0 : 0 ≤ i) (h1 : i < n) : ∃ ad , A = some ad ∧ w.cell? (ad.add (i.toNat * 4)) = some (.int .i64 (rd_T112 xs i).f0) ∧ w.cell? ⟨(ad.add (i.toNat * 4)).block, (ad.add (i.toNat * 4)).off + 1, none⟩ = some (.int .i64 (rd_T112 xs i).f1) ∧ w.cell? ⟨(ad.add (i.toNat * 4)).block, (ad.add (i.toNat * 4)).off + 2, none⟩ = some (.int .i64 (rd_T112 xs i).f2) ∧ w.cell? ⟨(ad.add (i.toNat * 4)).block, (ad.add (i.toNat * 4)).off + 3, none⟩ = some (.bool (rd_T112 xs i).f3) := by
 obtain ⟨ad,c,e,_,hK,hc0⟩:=Kd.C_get h z112 i h0 h1
 have hc : ∀ j u,c[j]? = some u → w.cell? (ad.add (i.toNat * 4 + j)) = some u:=hc0
 obtain rfl:=k112_open hK
 exact ⟨ad,e,hc 0 _ rfl,by rw [← add_field _ _ 1 (by omega)];exact hc 1 _ rfl,by rw [← add_field _ _ 2 (by omega)];exact hc 2 _ rfl,by rw [← add_field _ _ 3 (by omega)];exact hc 3 _ rfl⟩

def rd_L3 (xs : List (List Int)) (i : Int) : (List Int) := xs.getD i.toNat ([] : List Int)
/-! #### struct type 76 -/
structure S76 where
 f0 : Int
 f1 : Int
def z76 : S76 := ⟨(0 : Int), (0 : Int)⟩
def k76 : Kd S76 := Kd.iso (Kd.pair (Kd.int .i64) (Kd.int .i64)) (fun x : S76 => (x.f0, x.f1))
theorem k76_open {w : World} {x : S76} {cs : List Value} (h : k76.K w x cs) : cs = [.int .i64 x.f0, .int .i64 x.f1] := by
 obtain ⟨_,_,rfl,rfl,rfl⟩:=h
 exact rfl
theorem k76_openM {w : World} {base : Nat} {ok : Nat → Prop} {x : S76} {cs : List Value} (h : k76.M w base ok x cs) : cs = [.int .i64 x.f0, .int .i64 x.f1] := by
 obtain ⟨_,_,rfl,rfl,rfl⟩:=h
 exact rfl
theorem k76_mkM (w : World) (base : Nat) (ok : Nat → Prop) (x : S76)  : k76.M w base ok x [.int .i64 x.f0, .int .i64 x.f1] := ⟨[.int .i64 x.f0], [.int .i64 x.f1], rfl, rfl, rfl⟩
def rd_T76 (xs : List S76) (i : Int) : S76 := xs.getD i.toNat z76
theorem at_T76 {w : World} {A : Option Addr} {n : Nat} {xs : List S76} (h : Kd.C k76 w A n xs) (i : Int) (h0 : 0 ≤ i) (h1 : i < n) : ∃ ad , A = some ad ∧ w.cell? (ad.add (i.toNat * 2)) = some (.int .i64 (rd_T76 xs i).f0) ∧ w.cell? ⟨(ad.add (i.toNat * 2)).block, (ad.add (i.toNat * 2)).off + 1, none⟩ = some (.int .i64 (rd_T76 xs i).f1) := by
 obtain ⟨ad,c,e,_,hK,hc0⟩:=Kd.C_get h z76 i h0 h1
 have hc : ∀ j u,c[j]? = some u → w.cell? (ad.add (i.toNat * 2 + j)) = some u:=hc0
 obtain rfl:=k76_open hK
 exact ⟨ad,e,hc 0 _ rfl,by rw [← add_field _ _ 1 (by omega)];exact hc 1 _ rfl⟩

/-! #### struct type 130 -/
structure S130 where
 f0 : Int
 f1 : Int
def z130 : S130 := ⟨(0 : Int), (0 : Int)⟩
def k130 : Kd S130 := Kd.iso (Kd.pair (Kd.int .i64) (Kd.int .i64)) (fun x : S130 => (x.f0, x.f1))
theorem k130_open {w : World} {x : S130} {cs : List Value} (h : k130.K w x cs) : cs = [.int .i64 x.f0, .int .i64 x.f1] := by
 obtain ⟨_,_,rfl,rfl,rfl⟩:=h
 exact rfl
def rd_T130 (xs : List S130) (i : Int) : S130 := xs.getD i.toNat z130
theorem at_T130 {w : World} {A : Option Addr} {n : Nat} {xs : List S130} (h : Kd.C k130 w A n xs) (i : Int) (h0 : 0 ≤ i) (h1 : i < n) : ∃ ad , A = some ad ∧ w.cell? (ad.add (i.toNat * 2)) = some (.int .i64 (rd_T130 xs i).f0) ∧ w.cell? ⟨(ad.add (i.toNat * 2)).block, (ad.add (i.toNat * 2)).off + 1, none⟩ = some (.int .i64 (rd_T130 xs i).f1) := by
 obtain ⟨ad,c,e,_,hK,hc0⟩:=Kd.C_get h z130 i h0 h1
 have hc : ∀ j u,c[j]? = some u → w.cell? (ad.add (i.toNat * 2 + j)) = some u:=hc0
 obtain rfl:=k130_open hK
 exact ⟨ad,e,hc 0 _ rfl,by rw [← add_field _ _ 1 (by omega)];exact hc 1 _ rfl⟩

/-! #### struct type 152 -/
structure S152 where
 f0 : Int
 f1 : Int
 f2 : Int
 f3 : Bool
def z152 : S152 := ⟨(0 : Int), (0 : Int), (0 : Int), false⟩
def k152 : Kd S152 := Kd.iso (Kd.pair (Kd.int .i64) (Kd.pair (Kd.int .i64) (Kd.pair (Kd.int .i64) Kd.bool))) (fun x : S152 => (x.f0, x.f1, x.f2, x.f3))
theorem k152_open {w : World} {x : S152} {cs : List Value} (h : k152.K w x cs) : cs = [.int .i64 x.f0, .int .i64 x.f1, .int .i64 x.f2, .bool x.f3] := by
 obtain ⟨_,_,rfl,rfl,⟨_,_,rfl,rfl,⟨_,_,rfl,rfl,rfl⟩⟩⟩:=h
 exact rfl
def rd_T152 (xs : List S152) (i : Int) : S152 := xs.getD i.toNat z152
theorem at_T152 {w : World} {A : Option Addr} {n : Nat} {xs : List S152} (h : Kd.C k152 w A n xs) (i : Int) (h0 : 0 ≤ i) (h1 : i < n) : ∃ ad , A = some ad ∧ w.cell? (ad.add (i.toNat * 4)) = some (.int .i64 (rd_T152 xs i).f0) ∧ w.cell? ⟨(ad.add (i.toNat * 4)).block, (ad.add (i.toNat * 4)).off + 1, none⟩ = some (.int .i64 (rd_T152 xs i).f1) ∧ w.cell? ⟨(ad.add (i.toNat * 4)).block, (ad.add (i.toNat * 4)).off + 2, none⟩ = some (.int .i64 (rd_T152 xs i).f2) ∧ w.cell? ⟨(ad.add (i.toNat * 4)).block, (ad.add (i.toNat * 4)).off + 3, none⟩ = some (.bool (rd_T152 xs i).f3) := by
 obtain ⟨ad,c,e,_,hK,hc0⟩:=Kd.C_get h z152 i h0 h1
 have hc : ∀ j u,c[j]? = some u → w.cell? (ad.add (i.toNat * 4 + j)) = some u:=hc0
 obtain rfl:=k152_open hK
 exact ⟨ad,e,hc 0 _ rfl,by rw [← add_field _ _ 1 (by omega)];exact hc 1 _ rfl,by rw [← add_field _ _ 2 (by omega)];exact hc 2 _ rfl,by rw [← add_field _ _ 3 (by omega)];exact hc 3 _ rfl⟩

section
variable {P : Prop}
theorem qq1 (h : P := by (with_reducible repeat (first | refine dN ?_ _ | refine dD ?_ | refine dA ?_ _));refine blk_put (cs:=#[.int .i64 ((rd_T112 l0 x7_1).f0),.int .i64 ((rd_T112 l0 x7_1).f1),.int .i64 ((rd_T112 l0 x7_1).f2),.bool false]) ?_ 3 _ rfl;(with_reducible repeat (first | refine dN ?_ _ | refine dD ?_ | refine dA ?_ _));refine blk_put (cs:=#[.int .i64 ((rd_T112 l0 x7_1).f0),.int .i64 ((rd_T112 l0 x7_1).f1),.int .i64 0,.bool false]) ?_ 2 _ rfl;(with_reducible repeat (first | refine dN ?_ _ | refine dD ?_ | refine dA ?_ _));refine blk_put (cs:=#[.int .i64 ((rd_T112 l0 x7_1).f0),.int .i64 0,.int .i64 0,.bool false]) ?_ 1 _ rfl;(with_reducible repeat (first | refine dN ?_ _ | refine dD ?_ | refine dA ?_ _));refine blk_put (cs:=#[.int .i64 0,.int .i64 0,.int .i64 0,.bool false]) ?_ 0 _ rfl;(with_reducible repeat (first | refine dN ?_ _ | refine dD ?_ | refine dA ?_ _));exact BK102.out) : P := h
theorem qq2 (h : P := by (with_reducible repeat (first | refine dN ?_ _ | refine dD ?_ | refine dA ?_ _));refine blk_put (cs:=#[.int .i64 t557,.int .i64 t558,.slice none 0 0]) ?_ 2 _ rfl;(with_reducible repeat (first | refine dN ?_ _ | refine dD ?_ | refine dA ?_ _));refine blk_put (cs:=#[.int .i64 t557,.int .i64 0,.slice none 0 0]) ?_ 1 _ rfl;(with_reducible repeat (first | refine dN ?_ _ | refine dD ?_ | refine dA ?_ _));refine blk_put (cs:=#[.int .i64 0,.int .i64 0,.slice none 0 0]) ?_ 0 _ rfl;(with_reducible repeat (first | refine dN ?_ _ | refine dD ?_ | refine dA ?_ _));exact BK562.out) : P := h
theorem qq3 (h : P := by (with_reducible repeat (first | refine dN ?_ _ | refine dD ?_ | refine dA ?_ _));refine blk_far ?_ NB562_574.out _;(with_reducible repeat (first | refine dN ?_ _ | refine dD ?_ | refine dA ?_ _));refine blk_far ?_ NB562_574.out _;(with_reducible repeat (first | refine dN ?_ _ | refine dD ?_ | refine dA ?_ _));refine blk_far ?_ NB562_574.out _;(with_reducible repeat (first | refine dN ?_ _ | refine dD ?_ | refine dA ?_ _));refine blk_far ?_ NB562_574.out _;(with_reducible repeat (first | refine dN ?_ _ | refine dD ?_ | refine dA ?_ _));exact BK562.out) : P := h
theorem qq4 (h : P := by (with_reducible repeat (first | refine dN ?_ _ | refine dD ?_ | refine dA ?_ _));refine blk_far ?_ NB534_574.out _;(with_reducible repeat (first | refine dN ?_ _ | refine dD ?_ | refine dA ?_ _));refine blk_far ?_ NB534_574.out _;(with_reducible repeat (first | refine dN ?_ _ | refine dD ?_ | refine dA ?_ _));refine blk_far ?_ NB534_574.out _;(with_reducible repeat (first | refine dN ?_ _ | refine dD ?_ | refine dA ?_ _));refine blk_far ?_ NB534_574.out _;(with_reducible repeat (first | refine dN ?_ _ | refine dD ?_ | refine dA ?_ _));exact BK534.out) : P := h
theorem qq5 (h : P := by (with_reducible repeat (first | refine dN ?_ _ | refine dD ?_ | refine dA ?_ _));refine blk_far ?_ NB533_574.out _;(with_reducible repeat (first | refine dN ?_ _ | refine dD ?_ | refine dA ?_ _));refine blk_far ?_ NB533_574.out _;(with_reducible repeat (first | refine dN ?_ _ | refine dD ?_ | refine dA ?_ _));refine blk_far ?_ NB533_574.out _;(with_reducible repeat (first | refine dN ?_ _ | refine dD ?_ | refine dA ?_ _));refine blk_far ?_ NB533_574.out _;(with_reducible repeat (first | refine dN ?_ _ | refine dD ?_ | refine dA ?_ _));exact BK533.out) : P := h
theorem qq6 (h : P := by (with_reducible repeat (first | refine dN ?_ _ | refine dD ?_ | refine dA ?_ _));refine blk_far ?_ NB532_574.out _;(with_reducible repeat (first | refine dN ?_ _ | refine dD ?_ | refine dA ?_ _));refine blk_far ?_ NB532_574.out _;(with_reducible repeat (first | refine dN ?_ _ | refine dD ?_ | refine dA ?_ _));refine blk_far ?_ NB532_574.out _;(with_reducible repeat (first | refine dN ?_ _ | refine dD ?_ | refine dA ?_ _));refine blk_far ?_ NB532_574.out _;(with_reducible repeat (first | refine dN ?_ _ | refine dD ?_ | refine dA ?_ _));exact BK532.out) : P := h
theorem qq7 (h : P := by (with_reducible repeat (first | refine dN ?_ _ | refine dD ?_ | refine dA ?_ _));refine blk_far ?_ NB534_562.out _;(with_reducible repeat (first | refine dN ?_ _ | refine dD ?_ | refine dA ?_ _));refine blk_far ?_ NB534_562.out _;(with_reducible repeat (first | refine dN ?_ _ | refine dD ?_ | refine dA ?_ _));refine blk_far ?_ NB534_562.out _;(with_reducible repeat (first | refine dN ?_ _ | refine dD ?_ | refine dA ?_ _));exact BK534.out) : P := h
theorem qq8 (h : P := by (with_reducible repeat (first | refine dN ?_ _ | refine dD ?_ | refine dA ?_ _));refine blk_far ?_ NB533_562.out _;(with_reducible repeat (first | refine dN ?_ _ | refine dD ?_ | refine dA ?_ _));refine blk_far ?_ NB533_562.out _;(with_reducible repeat (first | refine dN ?_ _ | refine dD ?_ | refine dA ?_ _));refine blk_far ?_ NB533_562.out _;(with_reducible repeat (first | refine dN ?_ _ | refine dD ?_ | refine dA ?_ _));exact BK533.out) : P := h
theorem qq9 (h : P := by (with_reducible repeat (first | refine dN ?_ _ | refine dD ?_ | refine dA ?_ _));refine blk_far ?_ NB532_562.out _;(with_reducible repeat (first | refine dN ?_ _ | refine dD ?_ | refine dA ?_ _));refine blk_far ?_ NB532_562.out _;(with_reducible repeat (first | refine dN ?_ _ | refine dD ?_ | refine dA ?_ _));refine blk_far ?_ NB532_562.out _;(with_reducible repeat (first | refine dN ?_ _ | refine dD ?_ | refine dA ?_ _));exact BK532.out) : P := h
theorem qq10 (h : P := by (with_reducible repeat (first | refine dN ?_ _ | refine dD ?_ | refine dA ?_ _));refine blk_put (cs:=#[.int .i64 ((rd_T76 l2 x20_2).f0),.int .i64 0]) ?_ 1 _ rfl;(with_reducible repeat (first | refine dN ?_ _ | refine dD ?_ | refine dA ?_ _));refine blk_put (cs:=#[.int .i64 0,.int .i64 0]) ?_ 0 _ rfl;(with_reducible repeat (first | refine dN ?_ _ | refine dD ?_ | refine dA ?_ _));exact BK234.out) : P := h
theorem qq11 (h : P := by (with_reducible repeat (first | apply kA | apply kN | apply kD));exact (Kd.R_mono (Kd.R_far (p:=⟨gb562,2,none⟩) (Kd.R_far (p:=⟨gb562,1,none⟩) (Kd.R_far (p:=⟨gb562,0,none⟩) (Kd.R_types HO545.out BK562.out (by decide)) (fun _ hk => hk.2) (.int .i64 t557)) (fun _ hk => hk.2) (.int .i64 t558)) (fun _ hk => hk.2) (.slice Ao294 t559.length co294)) (fun _ h_ => h_.1))) : P := h
theorem qq12 (h : P := by (with_reducible repeat (first | apply kA | apply kN | apply kD));exact (Kd.R_mono (Kd.R_far (p:=⟨gb562,2,none⟩) (Kd.R_far (p:=⟨gb562,1,none⟩) (Kd.R_far (p:=⟨gb562,0,none⟩) (Kd.R_types HO545.out BK562.out (by decide)) (fun _ hk => hk.2) (.int .i64 t557)) (fun _ hk => hk.2) (.int .i64 t558)) (fun _ hk => hk.2) (.slice Ao246 t559.length co246)) (fun _ h_ => h_.1))) : P := h
theorem qq13 (h : P := by (with_reducible repeat (first | apply kA | apply kN | apply kD));exact (Kd.R_mono (Kd.R_far (p:=⟨gb562,2,none⟩) (Kd.R_far (p:=⟨gb562,1,none⟩) (Kd.R_far (p:=⟨gb562,0,none⟩) (Kd.R_types HO545.out BK562.out (by decide)) (fun _ hk => hk.2) (.int .i64 t557)) (fun _ hk => hk.2) (.int .i64 t558)) (fun _ hk => hk.2) (.slice Ao195 t559.length co195)) (fun _ h_ => h_.1))) : P := h
theorem qq14 (h : P := by (with_reducible repeat (first | apply kA | apply kN | apply kD));exact (Kd.R_mono (Kd.R_far (p:=⟨gb562,2,none⟩) (Kd.R_far (p:=⟨gb562,1,none⟩) (Kd.R_far (p:=⟨gb562,0,none⟩) (Kd.R_types HO545.out BK562.out (by decide)) (fun _ hk => hk.2) (.int .i64 t557)) (fun _ hk => hk.2) (.int .i64 t558)) (fun _ hk => hk.2) (.slice Ao139 t559.length co139)) (fun _ h_ => h_.1))) : P := h
theorem qq15 (h : P := by (with_reducible repeat (first | apply kA | apply kN | apply kD));exact (Kd.R_mono (Kd.R_far (p:=⟨gb562,2,none⟩) (Kd.R_far (p:=⟨gb562,1,none⟩) (Kd.R_far (p:=⟨gb562,0,none⟩) (Kd.R_types HO545.out BK562.out (by decide)) (fun _ hk => hk.2) (.int .i64 t557)) (fun _ hk => hk.2) (.int .i64 t558)) (fun _ hk => hk.2) (.slice Ao83 t559.length co83)) (fun _ h_ => h_.1))) : P := h
theorem qq16 (h : P := by (with_reducible repeat (first | refine dN ?_ _ | refine dD ?_ | refine dA ?_ _));refine blk_far ?_ NB231_234.out _;(with_reducible repeat (first | refine dN ?_ _ | refine dD ?_ | refine dA ?_ _));refine blk_far ?_ NB231_234.out _;(with_reducible repeat (first | refine dN ?_ _ | refine dD ?_ | refine dA ?_ _));exact BK231.out) : P := h
theorem qq17 (h : P := by (with_reducible repeat (first | apply kA | apply kN | apply kD));exact (Kd.R_mono (Kd.R_far (p:=⟨gb266,1,none⟩) (Kd.R_far (p:=⟨gb266,0,none⟩) (Kd.R_types HO_7.out BK266.out (by decide)) (fun _ hk => hk.2) (.int .i64 ((rd_T76 l2 x19_1).f0))) (fun _ hk => hk.2) (.int .i64 ((rd_T76 l2 x19_1).f1))) (fun _ h_ => h_.1))) : P := h
theorem qq18 (h : P := by repeat (first | exact (Kd.C_below HR0_3.out qq165) | (with_reducible refine cA ?_ _) | (with_reducible refine cN ?_ _) | (with_reducible refine cD ?_))) : P := h
theorem qq19 (h : P := by exact Kd.V_mk HC4_3.out (Kd.F_below (Kd.C_F Kd.heap_bool HR4_3.out) qq70)) : P := h
theorem qq20 (h : P := by rw [hg];exact (below_size qq44)) : P := h
theorem qq21 (h : P := by repeat (first | (with_reducible first | exact HB.out | apply bA | apply bN | apply bD | refine below_set ?_ GE532.out | refine below_set ?_ GE533.out | refine below_set ?_ GE534.out | refine below_set ?_ GE562.out | refine below_set ?_ GE574.out) | exact HB.out)) : P := h
theorem qq22 (h : P := by rw [hg];exact Nat.ne_of_lt (blk_lt (g:=gb534) (o:=.cells #[.int .i64 a4_0,.int .i64 a4_1,.slice A4_2 l4_2.length c4_2,.slice A4_3 l4_3.length c4_3] 97 (0,0)) qq214)) : P := h
theorem qq23 (h : P := by rw [hg];exact Nat.ne_of_lt (blk_lt (g:=gb528) (o:=.cells #[.int .i64 a0_0,.int .i64 a0_1,.slice A0_2 l0_2.length c0_2,.slice A0_3 l0_3.length c0_3] 27 (0,0)) qq218)) : P := h
theorem qq24 (h : P := by rw [hg];exact Nat.ne_of_lt (blk_lt (g:=gb512) (o:=.cells #[.int .i64 a0_0,.int .i64 a0_1,.slice A0_2 l0_2.length c0_2,.slice A0_3 l0_3.length c0_3] 97 (0,0)) qq221)) : P := h
theorem qq25 (h : P := by rw [hg];exact Nat.ne_of_gt (blk_lt (g:=gb534) (o:=.cells #[.int .i64 a4_0,.int .i64 a4_1,.slice A4_2 l4_2.length c4_2,.slice A4_3 l4_3.length c4_3] 97 (0,0)) qq214)) : P := h
theorem qq26 (h : P := by rw [hg];exact Nat.ne_of_gt (blk_lt (g:=gb528) (o:=.cells #[.int .i64 a0_0,.int .i64 a0_1,.slice A0_2 l0_2.length c0_2,.slice A0_3 l0_3.length c0_3] 27 (0,0)) qq218)) : P := h
theorem qq27 (h : P := by rw [hg];exact Nat.ne_of_gt (blk_lt (g:=gb512) (o:=.cells #[.int .i64 a0_0,.int .i64 a0_1,.slice A0_2 l0_2.length c0_2,.slice A0_3 l0_3.length c0_3] 97 (0,0)) qq221)) : P := h
theorem qq28 (h : P := by exact Kd.C_below HR2.out qq44) : P := h
theorem qq29 (h : P := by exact (fun k_ hk => ⟨Kd.fresh' (Kd.R_lt qq302) k_ hk,Kd.fresh' (Kd.R_lt qq271) k_ hk⟩)) : P := h
theorem qq30 (h : P := by exact (fun k_ hk => ⟨Kd.fresh' (Kd.R_lt qq301) k_ hk,Kd.fresh' (Kd.R_lt qq300) k_ hk⟩)) : P := h
theorem qq31 (h : P := by rw [hg];exact Nat.ne_of_lt (blk_lt (g:=gb532) (o:=.cells #[.int .i64 a0_0,.int .i64 a0_1,.slice A0_2 l0_2.length c0_2] 81 (0,0)) qq216)) : P := h
theorem qq32 (h : P := by rw [hg];exact Nat.ne_of_lt (blk_lt (g:=gb485) (o:=.cells #[.int .i64 a0_0,.int .i64 a0_1,.slice A0_2 l0_2.length c0_2] 51 (0,0)) qq228)) : P := h
theorem qq33 (h : P := by rw [hg];exact Nat.ne_of_lt (blk_lt (g:=gb316) (o:=.cells #[.int .i64 a0_0,.int .i64 a0_1,.slice A0_2 l0_2.length c0_2] 51 (0,0)) qq241)) : P := h
theorem qq34 (h : P := by rw [hg];exact Nat.ne_of_lt (blk_lt (g:=gb298) (o:=.cells #[.int .i64 a0_0,.int .i64 a0_1,.slice A0_2 l0_2.length c0_2] 81 (0,0)) qq245)) : P := h
theorem qq35 (h : P := by rw [hg];exact Nat.ne_of_lt (blk_lt (g:=gb284) (o:=.cells #[.int .i64 a0_0,.int .i64 a0_1,.slice A0_2 l0_2.length c0_2] 51 (0,0)) qq248)) : P := h
theorem qq36 (h : P := by rw [hg];exact Nat.ne_of_lt (blk_lt (g:=gb231) (o:=.cells #[.int .i64 a0_0,.int .i64 a0_1,.slice A0_2 l0_2.length c0_2] 51 (0,0)) qq252)) : P := h
theorem qq37 (h : P := by rw [hg];exact Nat.ne_of_gt (blk_lt (g:=gb532) (o:=.cells #[.int .i64 a0_0,.int .i64 a0_1,.slice A0_2 l0_2.length c0_2] 81 (0,0)) qq216)) : P := h
theorem qq38 (h : P := by rw [hg];exact Nat.ne_of_gt (blk_lt (g:=gb485) (o:=.cells #[.int .i64 a0_0,.int .i64 a0_1,.slice A0_2 l0_2.length c0_2] 51 (0,0)) qq228)) : P := h
theorem qq39 (h : P := by rw [hg];exact Nat.ne_of_gt (blk_lt (g:=gb316) (o:=.cells #[.int .i64 a0_0,.int .i64 a0_1,.slice A0_2 l0_2.length c0_2] 51 (0,0)) qq241)) : P := h
theorem qq40 (h : P := by rw [hg];exact Nat.ne_of_gt (blk_lt (g:=gb298) (o:=.cells #[.int .i64 a0_0,.int .i64 a0_1,.slice A0_2 l0_2.length c0_2] 81 (0,0)) qq245)) : P := h
theorem qq41 (h : P := by rw [hg];exact Nat.ne_of_gt (blk_lt (g:=gb284) (o:=.cells #[.int .i64 a0_0,.int .i64 a0_1,.slice A0_2 l0_2.length c0_2] 51 (0,0)) qq248)) : P := h
theorem qq42 (h : P := by rw [hg];exact Nat.ne_of_gt (blk_lt (g:=gb231) (o:=.cells #[.int .i64 a0_0,.int .i64 a0_1,.slice A0_2 l0_2.length c0_2] 51 (0,0)) qq252)) : P := h
theorem qq43 (h : P := by rw [hg];exact (below_size qq66)) : P := h
theorem qq44 (h : P := by repeat (first | (with_reducible first | exact HB.out | apply bA | apply bN | apply bD | refine below_set ?_ GE532.out | refine below_set ?_ GE533.out | refine below_set ?_ GE534.out | refine below_set ?_ GE562.out) | exact HB.out)) : P := h
theorem qq45 (h : P := by rw [hg];exact Nat.ne_of_lt (blk_lt (g:=gb521) (o:=.cells #[.int .i64 a0_0,.int .i64 a0_1,.int .i64 a0_2,.bool a0_3] 112 (0,0)) qq219)) : P := h
theorem qq46 (h : P := by rw [hg];exact Nat.ne_of_lt (blk_lt (g:=gb495) (o:=.cells #[.int .i64 a0_0,.int .i64 a0_1,.int .i64 a0_2,.bool a0_3] 152 (0,0)) qq223)) : P := h
theorem qq47 (h : P := by rw [hg];exact Nat.ne_of_gt (blk_lt (g:=gb521) (o:=.cells #[.int .i64 a0_0,.int .i64 a0_1,.int .i64 a0_2,.bool a0_3] 112 (0,0)) qq219)) : P := h
theorem qq48 (h : P := by rw [hg];exact Nat.ne_of_gt (blk_lt (g:=gb495) (o:=.cells #[.int .i64 a0_0,.int .i64 a0_1,.int .i64 a0_2,.bool a0_3] 152 (0,0)) qq223)) : P := h
theorem qq49 (h : P := by rw [← hq_];exact qq66) : P := h
theorem qq50 (h : P := by rw [hg];exact Nat.ne_of_lt (blk_lt (g:=gb304) (o:=.cells #[.int .i64 a0_0,.int .i64 a0_1] 130 (0,0)) qq243)) : P := h
theorem qq51 (h : P := by rw [hg];exact Nat.ne_of_gt (blk_lt (g:=gb304) (o:=.cells #[.int .i64 a0_0,.int .i64 a0_1] 130 (0,0)) qq243)) : P := h
theorem qq52 (h : P := by rw [hg];exact Nat.ne_of_lt (blk_lt (g:=gb533) (o:=.cells #[.int .i64 a3_0,.int .i64 a3_1] 94 (0,0)) qq215)) : P := h
theorem qq53 (h : P := by rw [hg];exact Nat.ne_of_lt (blk_lt (g:=gb492) (o:=.cells #[.int .i64 a0_0,.int .i64 a0_1] 94 (0,0)) qq225)) : P := h
theorem qq54 (h : P := by rw [hg];exact Nat.ne_of_lt (blk_lt (g:=gb319) (o:=.cells #[.int .i64 a0_0,.int .i64 a0_1] 76 (0,0)) qq240)) : P := h
theorem qq55 (h : P := by rw [hg];exact Nat.ne_of_gt (blk_lt (g:=gb533) (o:=.cells #[.int .i64 a3_0,.int .i64 a3_1] 94 (0,0)) qq215)) : P := h
theorem qq56 (h : P := by rw [hg];exact Nat.ne_of_gt (blk_lt (g:=gb492) (o:=.cells #[.int .i64 a0_0,.int .i64 a0_1] 94 (0,0)) qq225)) : P := h
theorem qq57 (h : P := by rw [hg];exact Nat.ne_of_gt (blk_lt (g:=gb319) (o:=.cells #[.int .i64 a0_0,.int .i64 a0_1] 76 (0,0)) qq240)) : P := h
theorem qq58 (h : P := by rw [hg];exact (below_size qq89)) : P := h
theorem qq59 (h : P := by rw [hg];exact (below_size qq92)) : P := h
theorem qq60 (h : P := by rw [hg];exact (below_size qq93)) : P := h
theorem qq61 (h : P := by rw [hg];exact (below_size qq94)) : P := h
theorem qq62 (h : P := by rw [hg];exact (below_size qq95)) : P := h
theorem qq63 (h : P := by rw [hg];exact (below_size qq98)) : P := h
theorem qq64 (h : P := by rw [hg];exact (below_size qq99)) : P := h
theorem qq65 (h : P := by rw [hg];exact (below_size qq100)) : P := h
theorem qq66 (h : P := by repeat (first | (with_reducible first | exact HB.out | apply bA | apply bN | apply bD | refine below_set ?_ GE532.out | refine below_set ?_ GE533.out | refine below_set ?_ GE534.out) | exact HB.out)) : P := h
theorem qq67 (h : P := by repeat (first | (with_reducible first | exact HB.out | apply bA | apply bN | apply bD | refine below_set ?_ GE512.out | refine below_set ?_ GE513.out | refine below_set ?_ GE514.out) | exact HB.out)) : P := h
theorem qq68 (h : P := by repeat (first | (with_reducible first | exact HB.out | apply bA | apply bN | apply bD | refine below_set ?_ GE485.out | refine below_set ?_ GE486.out | refine below_set ?_ GE487.out) | exact HB.out)) : P := h
theorem qq69 (h : P := by repeat (first | (with_reducible first | exact HB.out | apply bA | apply bN | apply bD | refine below_set ?_ GE298.out | refine below_set ?_ GE299.out | refine below_set ?_ GE300.out) | exact HB.out)) : P := h
theorem qq70 (h : P := by repeat (first | (with_reducible first | exact HB.out | apply bA | apply bN | apply bD | refine below_set ?_ GE284.out | refine below_set ?_ GE285.out | refine below_set ?_ GE286.out) | exact HB.out)) : P := h
theorem qq71 (h : P := by exact Kd.C_below HR0_2.out qq102) : P := h
theorem qq72 (h : P := by exact (below_size qq101)) : P := h
theorem qq73 (h : P := by have h_ : (x4_1 : Int) < ((x3_1.length : Int) : Int):=odt qq309;first | exact h_ | (have e_:=(Kd.R_reads' HO_3.out).1;omega) | simpa using h_) : P := h
theorem qq74 (h : P := by exact qq101) : P := h
theorem qq75 (h : P := by rw [hg];exact (below_size qq145)) : P := h
theorem qq76 (h : P := by rw [hg];exact (below_size qq146)) : P := h
theorem qq77 (h : P := by rw [hg];exact (below_size qq147)) : P := h
theorem qq78 (h : P := by rw [hg];exact (below_size qq148)) : P := h
theorem qq79 (h : P := by rw [hg];exact (below_size qq149)) : P := h
theorem qq80 (h : P := by rw [hg];exact (below_size qq150)) : P := h
theorem qq81 (h : P := by rw [hg];exact (below_size qq151)) : P := h
theorem qq82 (h : P := by rw [hg];exact (below_size qq166)) : P := h
theorem qq83 (h : P := by rw [hg];exact (below_size qq167)) : P := h
theorem qq84 (h : P := by rw [hg];exact (below_size qq168)) : P := h
theorem qq85 (h : P := by rw [hg];exact (below_size qq169)) : P := h
theorem qq86 (h : P := by rw [hg];exact (below_size qq171)) : P := h
theorem qq87 (h : P := by rw [hg];exact (below_size qq173)) : P := h
theorem qq88 (h : P := by rw [hg];exact (below_size qq175)) : P := h
theorem qq89 (h : P := by repeat (first | (with_reducible first | exact HB.out | apply bA | apply bN | apply bD | refine below_set ?_ GE532.out | refine below_set ?_ GE533.out) | exact HB.out)) : P := h
theorem qq90 (h : P := by repeat (first | (with_reducible first | exact HB.out | apply bA | apply bN | apply bD | refine below_set ?_ GE528.out | refine below_set ?_ GE529.out) | exact HB.out)) : P := h
theorem qq91 (h : P := by repeat (first | (with_reducible first | exact HB.out | apply bA | apply bN | apply bD | refine below_set ?_ GE521.out | refine below_set ?_ GE522.out) | exact HB.out)) : P := h
theorem qq92 (h : P := by repeat (first | (with_reducible first | exact HB.out | apply bA | apply bN | apply bD | refine below_set ?_ GE512.out | refine below_set ?_ GE513.out) | exact HB.out)) : P := h
theorem qq93 (h : P := by repeat (first | (with_reducible first | exact HB.out | apply bA | apply bN | apply bD | refine below_set ?_ GE495.out | refine below_set ?_ GE496.out) | exact HB.out)) : P := h
theorem qq94 (h : P := by repeat (first | (with_reducible first | exact HB.out | apply bA | apply bN | apply bD | refine below_set ?_ GE492.out | refine below_set ?_ GE493.out) | exact HB.out)) : P := h
theorem qq95 (h : P := by repeat (first | (with_reducible first | exact HB.out | apply bA | apply bN | apply bD | refine below_set ?_ GE485.out | refine below_set ?_ GE486.out) | exact HB.out)) : P := h
theorem qq96 (h : P := by repeat (first | (with_reducible first | exact HB.out | apply bA | apply bN | apply bD | refine below_set ?_ GE319.out | refine below_set ?_ GE320.out) | exact HB.out)) : P := h
theorem qq97 (h : P := by repeat (first | (with_reducible first | exact HB.out | apply bA | apply bN | apply bD | refine below_set ?_ GE316.out | refine below_set ?_ GE317.out) | exact HB.out)) : P := h
theorem qq98 (h : P := by repeat (first | (with_reducible first | exact HB.out | apply bA | apply bN | apply bD | refine below_set ?_ GE304.out | refine below_set ?_ GE305.out) | exact HB.out)) : P := h
theorem qq99 (h : P := by repeat (first | (with_reducible first | exact HB.out | apply bA | apply bN | apply bD | refine below_set ?_ GE298.out | refine below_set ?_ GE299.out) | exact HB.out)) : P := h
theorem qq100 (h : P := by repeat (first | (with_reducible first | exact HB.out | apply bA | apply bN | apply bD | refine below_set ?_ GE284.out | refine below_set ?_ GE285.out) | exact HB.out)) : P := h
theorem qq101 (h : P := by repeat (first | (with_reducible first | exact HB.out | apply bA | apply bN | apply bD | refine below_set ?_ GE260.out | refine below_set ?_ GE266.out) | exact HB.out)) : P := h
theorem qq102 (h : P := by repeat (first | (with_reducible first | exact HB.out | apply bA | apply bN | apply bD | refine below_set ?_ GE231.out | refine below_set ?_ GE234.out) | exact HB.out)) : P := h
theorem qq103 (h : P := by first | rfl | (simp [errW_none,errW_some] <;> rfl) | (simp only [← hji53];first | rfl | (simp [errW_none,errW_some] <;> rfl)) | (simp [*,errW_none,errW_some] <;> rfl)) : P := h
theorem qq104 (h : P := by first | rfl | (simp [errW_none,errW_some] <;> rfl) | (simp only [← hji41];first | rfl | (simp [errW_none,errW_some] <;> rfl)) | (simp [*,errW_none,errW_some] <;> rfl)) : P := h
theorem qq105 (h : P := by repeat (first | (with_reducible first | exact HB.out | apply bA | apply bN | apply bD | refine below_set ?_ GB12.out | refine below_set ?_ GE362.out) | exact HB.out)) : P := h
theorem qq106 (h : P := by exact (below_size qq152)) : P := h
theorem qq107 (h : P := by exact (below_size qq156)) : P := h
theorem qq108 (h : P := by exact (below_size qq157)) : P := h
theorem qq109 (h : P := by exact (below_size qq161)) : P := h
theorem qq110 (h : P := by exact (below_size qq174)) : P := h
theorem qq111 (h : P := by exact (below_size qq177)) : P := h
theorem qq112 (h : P := by repeat (first | exact (Kd.C_below HR4_3.out HB.out) | (with_reducible refine cA ?_ _) | (with_reducible refine cN ?_ _) | (with_reducible refine cD ?_))) : P := h
theorem qq113 (h : P := by repeat (first | exact (Kd.C_below HR4_2.out HB.out) | (with_reducible refine cA ?_ _) | (with_reducible refine cN ?_ _) | (with_reducible refine cD ?_))) : P := h
theorem qq114 (h : P := by repeat (first | exact (Kd.C_below HR1_3.out HB.out) | (with_reducible refine cA ?_ _) | (with_reducible refine cN ?_ _) | (with_reducible refine cD ?_))) : P := h
theorem qq115 (h : P := by repeat (first | exact (Kd.C_below HR1_2.out HB.out) | (with_reducible refine cA ?_ _) | (with_reducible refine cN ?_ _) | (with_reducible refine cD ?_))) : P := h
theorem qq116 (h : P := by repeat (first | exact (Kd.C_below HR0_3.out HB.out) | (with_reducible refine cA ?_ _) | (with_reducible refine cN ?_ _) | (with_reducible refine cD ?_))) : P := h
theorem qq117 (h : P := by repeat (first | exact (Kd.C_below HR0_2.out HB.out) | (with_reducible refine cA ?_ _) | (with_reducible refine cN ?_ _) | (with_reducible refine cD ?_))) : P := h
theorem qq118 (h : P := by repeat (first | exact (Kd.R_reads' HO595.out).2.2 | (with_reducible refine cA ?_ _) | (with_reducible refine cN ?_ _) | (with_reducible refine cD ?_))) : P := h
theorem qq119 (h : P := by repeat (first | exact (Kd.R_reads' HO592.out).2.2 | (with_reducible refine cA ?_ _) | (with_reducible refine cN ?_ _) | (with_reducible refine cD ?_))) : P := h
theorem qq120 (h : P := by repeat (first | exact (Kd.R_reads' HO586.out).2.2 | (with_reducible refine cA ?_ _) | (with_reducible refine cN ?_ _) | (with_reducible refine cD ?_))) : P := h
theorem qq121 (h : P := by repeat (first | exact (Kd.R_reads' HO582.out).2.2 | (with_reducible refine cA ?_ _) | (with_reducible refine cN ?_ _) | (with_reducible refine cD ?_))) : P := h
theorem qq122 (h : P := by repeat (first | exact (Kd.R_reads' HO573.out).2.2 | (with_reducible refine cA ?_ _) | (with_reducible refine cN ?_ _) | (with_reducible refine cD ?_))) : P := h
theorem qq123 (h : P := by repeat (first | exact (Kd.R_reads' HO570.out).2.2 | (with_reducible refine cA ?_ _) | (with_reducible refine cN ?_ _) | (with_reducible refine cD ?_))) : P := h
theorem qq124 (h : P := by repeat (first | exact (Kd.R_reads' HO565.out).2.2 | (with_reducible refine cA ?_ _) | (with_reducible refine cN ?_ _) | (with_reducible refine cD ?_))) : P := h
theorem qq125 (h : P := by repeat (first | exact (Kd.R_reads' HO561.out).2.2 | (with_reducible refine cA ?_ _) | (with_reducible refine cN ?_ _) | (with_reducible refine cD ?_))) : P := h
theorem qq126 (h : P := by repeat (first | exact (Kd.R_reads' HO555.out).2.2 | (with_reducible refine cA ?_ _) | (with_reducible refine cN ?_ _) | (with_reducible refine cD ?_))) : P := h
theorem qq127 (h : P := by repeat (first | exact (Kd.R_reads' HO552.out).2.2 | (with_reducible refine cA ?_ _) | (with_reducible refine cN ?_ _) | (with_reducible refine cD ?_))) : P := h
theorem qq128 (h : P := by repeat (first | exact (Kd.R_reads' HO545.out).2.2 | (with_reducible refine cA ?_ _) | (with_reducible refine cN ?_ _) | (with_reducible refine cD ?_))) : P := h
theorem qq129 (h : P := by repeat (first | exact (Kd.R_reads' HO542.out).2.2 | (with_reducible refine cA ?_ _) | (with_reducible refine cN ?_ _) | (with_reducible refine cD ?_))) : P := h
theorem qq130 (h : P := by repeat (first | exact (Kd.R_reads' HO241.out).2.2 | (with_reducible refine cA ?_ _) | (with_reducible refine cN ?_ _) | (with_reducible refine cD ?_))) : P := h
theorem qq131 (h : P := by repeat (first | exact (Kd.C_below HR2.out HB.out) | (with_reducible refine cA ?_ _) | (with_reducible refine cN ?_ _) | (with_reducible refine cD ?_))) : P := h
theorem qq132 (h : P := by repeat (first | exact (Kd.C_below HR0.out HB.out) | (with_reducible refine cA ?_ _) | (with_reducible refine cN ?_ _) | (with_reducible refine cD ?_))) : P := h
theorem qq133 (h : P := by repeat (first | exact (Kd.V_reads' HO_1.out).2.2 | (with_reducible refine cA ?_ _) | (with_reducible refine cN ?_ _) | (with_reducible refine cD ?_))) : P := h
theorem qq134 (h : P := by repeat (first | exact (Kd.R_reads' HO_7.out).2.2 | (with_reducible refine cA ?_ _) | (with_reducible refine cN ?_ _) | (with_reducible refine cD ?_))) : P := h
theorem qq135 (h : P := by exact qq152) : P := h
theorem qq136 (h : P := by exact qq156) : P := h
theorem qq137 (h : P := by exact qq157) : P := h
theorem qq138 (h : P := by exact qq161) : P := h
theorem qq139 (h : P := by exact qq174) : P := h
theorem qq140 (h : P := by exact qq177) : P := h
theorem qq141 (h : P := by (try simp only [hl5_2]);(try simp only [hl5_3]);(with_reducible repeat (first | refine dN ?_ _ | refine dD ?_ | refine dA ?_ _));exact BK362.out) : P := h
theorem qq142 (h : P := by first | exact Kd.R_nil _ _ _ _ _ | exact Kd.N_nil _ _ _ _ _ | exact Kd.V_nil _ _ _ _ _ | exact Kd.Q_nil _ _ _ _ _ | exact Kd.S_nil _ _ _ _ _) : P := h
theorem qq143 (h : P := by (with_reducible repeat (first | apply Kd.Q_alloc | apply Kd.Q_drewN | apply Kd.Q_drew));exact Kd.Q_mono HO_6.out (fun _ hk => ⟨hk.2,hk.1⟩)) : P := h
theorem qq144 (h : P := by rw [hg];exact (below_size qq208)) : P := h
theorem qq145 (h : P := by repeat (first | (with_reducible first | exact HB.out | apply bA | apply bN | apply bD | refine below_set ?_ GE532.out) | exact HB.out)) : P := h
theorem qq146 (h : P := by repeat (first | (with_reducible first | exact HB.out | apply bA | apply bN | apply bD | refine below_set ?_ GE528.out) | exact HB.out)) : P := h
theorem qq147 (h : P := by repeat (first | (with_reducible first | exact HB.out | apply bA | apply bN | apply bD | refine below_set ?_ GE521.out) | exact HB.out)) : P := h
theorem qq148 (h : P := by repeat (first | (with_reducible first | exact HB.out | apply bA | apply bN | apply bD | refine below_set ?_ GE512.out) | exact HB.out)) : P := h
theorem qq149 (h : P := by repeat (first | (with_reducible first | exact HB.out | apply bA | apply bN | apply bD | refine below_set ?_ GE495.out) | exact HB.out)) : P := h
theorem qq150 (h : P := by repeat (first | (with_reducible first | exact HB.out | apply bA | apply bN | apply bD | refine below_set ?_ GE492.out) | exact HB.out)) : P := h
theorem qq151 (h : P := by repeat (first | (with_reducible first | exact HB.out | apply bA | apply bN | apply bD | refine below_set ?_ GE485.out) | exact HB.out)) : P := h
theorem qq152 (h : P := by repeat (first | (with_reducible first | exact HB.out | apply bA | apply bN | apply bD | refine below_set ?_ GE470.out) | exact HB.out)) : P := h
theorem qq153 (h : P := by repeat (first | (with_reducible first | exact HB.out | apply bA | apply bN | apply bD | refine below_set ?_ GE465.out) | exact HB.out)) : P := h
theorem qq154 (h : P := by repeat (first | (with_reducible first | exact HB.out | apply bA | apply bN | apply bD | refine below_set ?_ GE461.out) | exact HB.out)) : P := h
theorem qq155 (h : P := by repeat (first | (with_reducible first | exact HB.out | apply bA | apply bN | apply bD | refine below_set ?_ GE448.out) | exact HB.out)) : P := h
theorem qq156 (h : P := by repeat (first | (with_reducible first | exact HB.out | apply bA | apply bN | apply bD | refine below_set ?_ GE423.out) | exact HB.out)) : P := h
theorem qq157 (h : P := by repeat (first | (with_reducible first | exact HB.out | apply bA | apply bN | apply bD | refine below_set ?_ GE401.out) | exact HB.out)) : P := h
theorem qq158 (h : P := by repeat (first | (with_reducible first | exact HB.out | apply bA | apply bN | apply bD | refine below_set ?_ GE394.out) | exact HB.out)) : P := h
theorem qq159 (h : P := by repeat (first | (with_reducible first | exact HB.out | apply bA | apply bN | apply bD | refine below_set ?_ GE387.out) | exact HB.out)) : P := h
theorem qq160 (h : P := by repeat (first | (with_reducible first | exact HB.out | apply bA | apply bN | apply bD | refine below_set ?_ GE362.out) | exact HB.out)) : P := h
theorem qq161 (h : P := by repeat (first | (with_reducible first | exact HB.out | apply bA | apply bN | apply bD | refine below_set ?_ GE338.out) | exact HB.out)) : P := h
theorem qq162 (h : P := by repeat (first | (with_reducible first | exact HB.out | apply bA | apply bN | apply bD | refine below_set ?_ GE335.out) | exact HB.out)) : P := h
theorem qq163 (h : P := by repeat (first | (with_reducible first | exact HB.out | apply bA | apply bN | apply bD | refine below_set ?_ GE332.out) | exact HB.out)) : P := h
theorem qq164 (h : P := by repeat (first | (with_reducible first | exact HB.out | apply bA | apply bN | apply bD | refine below_set ?_ GE327.out) | exact HB.out)) : P := h
theorem qq165 (h : P := by repeat (first | (with_reducible first | exact HB.out | apply bA | apply bN | apply bD | refine below_set ?_ GE324.out) | exact HB.out)) : P := h
theorem qq166 (h : P := by repeat (first | (with_reducible first | exact HB.out | apply bA | apply bN | apply bD | refine below_set ?_ GE319.out) | exact HB.out)) : P := h
theorem qq167 (h : P := by repeat (first | (with_reducible first | exact HB.out | apply bA | apply bN | apply bD | refine below_set ?_ GE316.out) | exact HB.out)) : P := h
theorem qq168 (h : P := by repeat (first | (with_reducible first | exact HB.out | apply bA | apply bN | apply bD | refine below_set ?_ GE304.out) | exact HB.out)) : P := h
theorem qq169 (h : P := by repeat (first | (with_reducible first | exact HB.out | apply bA | apply bN | apply bD | refine below_set ?_ GE298.out) | exact HB.out)) : P := h
theorem qq170 (h : P := by repeat (first | (with_reducible first | exact HB.out | apply bA | apply bN | apply bD | refine below_set ?_ GE291.out) | exact HB.out)) : P := h
theorem qq171 (h : P := by repeat (first | (with_reducible first | exact HB.out | apply bA | apply bN | apply bD | refine below_set ?_ GE284.out) | exact HB.out)) : P := h
theorem qq172 (h : P := by repeat (first | (with_reducible first | exact HB.out | apply bA | apply bN | apply bD | refine below_set ?_ GE280.out) | exact HB.out)) : P := h
theorem qq173 (h : P := by repeat (first | (with_reducible first | exact HB.out | apply bA | apply bN | apply bD | refine below_set ?_ GE260.out) | exact HB.out)) : P := h
theorem qq174 (h : P := by repeat (first | (with_reducible first | exact HB.out | apply bA | apply bN | apply bD | refine below_set ?_ GE237.out) | exact HB.out)) : P := h
theorem qq175 (h : P := by repeat (first | (with_reducible first | exact HB.out | apply bA | apply bN | apply bD | refine below_set ?_ GE231.out) | exact HB.out)) : P := h
theorem qq176 (h : P := by repeat (first | (with_reducible first | exact HB.out | apply bA | apply bN | apply bD | refine below_set ?_ GE221.out) | exact HB.out)) : P := h
theorem qq177 (h : P := by repeat (first | (with_reducible first | exact HB.out | apply bA | apply bN | apply bD | refine below_set ?_ GE190.out) | exact HB.out)) : P := h
theorem qq178 (h : P := by repeat (first | (with_reducible first | exact HB.out | apply bA | apply bN | apply bD | refine below_set ?_ GE173.out) | exact HB.out)) : P := h
theorem qq179 (h : P := by repeat (first | (with_reducible first | exact HB.out | apply bA | apply bN | apply bD | refine below_set ?_ GE168.out) | exact HB.out)) : P := h
theorem qq180 (h : P := by repeat (first | (with_reducible first | exact HB.out | apply bA | apply bN | apply bD | refine below_set ?_ GE165.out) | exact HB.out)) : P := h
theorem qq181 (h : P := by repeat (first | (with_reducible first | exact HB.out | apply bA | apply bN | apply bD | refine below_set ?_ GE162.out) | exact HB.out)) : P := h
theorem qq182 (h : P := by repeat (first | (with_reducible first | exact HB.out | apply bA | apply bN | apply bD | refine below_set ?_ GE158.out) | exact HB.out)) : P := h
theorem qq183 (h : P := by repeat (first | (with_reducible first | exact HB.out | apply bA | apply bN | apply bD | refine below_set ?_ GE146.out) | exact HB.out)) : P := h
theorem qq184 (h : P := by repeat (first | (with_reducible first | exact HB.out | apply bA | apply bN | apply bD | refine below_set ?_ GE140.out) | exact HB.out)) : P := h
theorem qq185 (h : P := by repeat (first | (with_reducible first | exact HB.out | apply bA | apply bN | apply bD | refine below_set ?_ GE113.out) | exact HB.out)) : P := h
theorem qq186 (h : P := by repeat (first | (with_reducible first | exact HB.out | apply bA | apply bN | apply bD | refine below_set ?_ GE102.out) | exact HB.out)) : P := h
theorem qq187 (h : P := by (try simp only [List.map_toArray,List.map_cons,List.map_nil]);first | done | rfl | (simp only [List.length_drop,List.length_take];rfl)) : P := h
theorem qq188 (h : P := by exact (fun k_ hk => Kd.fresh' (Kd.R_lt qq288) k_ hk)) : P := h
theorem qq189 (h : P := by repeat (first | exact HR0.out | (with_reducible refine cA ?_ _) | (with_reducible refine cN ?_ _) | (with_reducible refine cD ?_))) : P := h
theorem qq190 (h : P := by (try simp only [hl5_2]);(try simp only [hl5_3]);(with_reducible repeat (first | apply kA | apply kN | apply kD));exact HO_9.out) : P := h
theorem qq191 (h : P := by exact (below_size qq208)) : P := h
theorem qq192 (h : P := by exact qq204) : P := h
theorem qq193 (h : P := by exact qq205) : P := h
theorem qq194 (h : P := by rw [← hq_];exact qq214) : P := h
theorem qq195 (h : P := by rw [← hq_];exact qq215) : P := h
theorem qq196 (h : P := by rw [← hq_];exact qq216) : P := h
theorem qq197 (h : P := by (with_reducible repeat (first | apply kA | apply kN | apply kD));exact Kd.R_mono HO_57.out (fun _ hk => ⟨hk.2,hk.1⟩)) : P := h
theorem qq198 (h : P := by (with_reducible repeat (first | apply kA | apply kN | apply kD));exact Kd.R_mono HO_9.out (fun _ hk => ⟨hk.2,hk.1⟩)) : P := h
theorem qq199 (h : P := by (with_reducible repeat (first | apply kA | apply kN | apply kD));exact Kd.R_mono HO_8.out (fun _ hk => ⟨hk.2,hk.1⟩)) : P := h
theorem qq200 (h : P := by (with_reducible repeat (first | apply kA | apply kN | apply kD));exact Kd.R_mono HO_7.out (fun _ hk => ⟨hk.2,hk.1⟩)) : P := h
theorem qq201 (h : P := by (with_reducible repeat (first | apply kA | apply kN | apply kD));exact Kd.R_mono HO_5.out (fun _ hk => ⟨hk.2,hk.1⟩)) : P := h
theorem qq202 (h : P := by exact qq208) : P := h
theorem qq203 (h : P := by (with_reducible repeat (first | apply kA | apply kN | apply kD));exact Kd.R_mono HO_5.out (fun _ hk => trivial)) : P := h
theorem qq204 (h : P := by (with_reducible repeat (first | apply kA | apply kN | apply kD));exact Kd.R_mono HO404.out (fun _ hk => hk.2)) : P := h
theorem qq205 (h : P := by (with_reducible repeat (first | apply kA | apply kN | apply kD));exact Kd.R_mono HO_7.out (fun _ hk => hk.2)) : P := h
theorem qq206 (h : P := by (with_reducible repeat (first | apply kA | apply kN | apply kD));exact Kd.R_mono HO_5.out (fun _ hk => hk.2)) : P := h
theorem qq207 (h : P := by (with_reducible repeat (first | apply Kd.Q_alloc | apply Kd.Q_drewN | apply Kd.Q_drew));exact HO210.out) : P := h
theorem qq208 (h : P := by repeat (first | (with_reducible first | exact HB.out | apply bA | apply bN | apply bD) | exact HB.out)) : P := h
theorem qq209 (h : P := by (with_reducible repeat (first | apply Kd.V_alloc | apply Kd.V_drewN | apply Kd.V_drew));exact HO_1.out) : P := h
theorem qq210 (h : P := by (with_reducible repeat (first | apply Kd.Q_alloc | apply Kd.Q_drewN | apply Kd.Q_drew));exact HO_6.out) : P := h
theorem qq211 (h : P := by (with_reducible repeat (first | apply Kd.V_alloc | apply Kd.V_drewN | apply Kd.V_drew));exact HO1.out) : P := h
theorem qq212 (h : P := by (with_reducible repeat (first | refine dN ?_ _ | refine dD ?_ | refine dA ?_ _));exact BK574.out) : P := h
theorem qq213 (h : P := by (with_reducible repeat (first | refine dN ?_ _ | refine dD ?_ | refine dA ?_ _));exact BK562.out) : P := h
theorem qq214 (h : P := by (with_reducible repeat (first | refine dN ?_ _ | refine dD ?_ | refine dA ?_ _));exact BK534.out) : P := h
theorem qq215 (h : P := by (with_reducible repeat (first | refine dN ?_ _ | refine dD ?_ | refine dA ?_ _));exact BK533.out) : P := h
theorem qq216 (h : P := by (with_reducible repeat (first | refine dN ?_ _ | refine dD ?_ | refine dA ?_ _));exact BK532.out) : P := h
theorem qq217 (h : P := by (with_reducible repeat (first | refine dN ?_ _ | refine dD ?_ | refine dA ?_ _));exact BK529.out) : P := h
theorem qq218 (h : P := by (with_reducible repeat (first | refine dN ?_ _ | refine dD ?_ | refine dA ?_ _));exact BK528.out) : P := h
theorem qq219 (h : P := by (with_reducible repeat (first | refine dN ?_ _ | refine dD ?_ | refine dA ?_ _));exact BK521.out) : P := h
theorem qq220 (h : P := by (with_reducible repeat (first | refine dN ?_ _ | refine dD ?_ | refine dA ?_ _));exact BK513.out) : P := h
theorem qq221 (h : P := by (with_reducible repeat (first | refine dN ?_ _ | refine dD ?_ | refine dA ?_ _));exact BK512.out) : P := h
theorem qq222 (h : P := by (with_reducible repeat (first | refine dN ?_ _ | refine dD ?_ | refine dA ?_ _));exact BK496.out) : P := h
theorem qq223 (h : P := by (with_reducible repeat (first | refine dN ?_ _ | refine dD ?_ | refine dA ?_ _));exact BK495.out) : P := h
theorem qq224 (h : P := by (with_reducible repeat (first | refine dN ?_ _ | refine dD ?_ | refine dA ?_ _));exact BK493.out) : P := h
theorem qq225 (h : P := by (with_reducible repeat (first | refine dN ?_ _ | refine dD ?_ | refine dA ?_ _));exact BK492.out) : P := h
theorem qq226 (h : P := by (with_reducible repeat (first | refine dN ?_ _ | refine dD ?_ | refine dA ?_ _));exact BK487.out) : P := h
theorem qq227 (h : P := by (with_reducible repeat (first | refine dN ?_ _ | refine dD ?_ | refine dA ?_ _));exact BK486.out) : P := h
theorem qq228 (h : P := by (with_reducible repeat (first | refine dN ?_ _ | refine dD ?_ | refine dA ?_ _));exact BK485.out) : P := h
theorem qq229 (h : P := by (with_reducible repeat (first | refine dN ?_ _ | refine dD ?_ | refine dA ?_ _));exact BK470.out) : P := h
theorem qq230 (h : P := by (with_reducible repeat (first | refine dN ?_ _ | refine dD ?_ | refine dA ?_ _));exact BK465.out) : P := h
theorem qq231 (h : P := by (with_reducible repeat (first | refine dN ?_ _ | refine dD ?_ | refine dA ?_ _));exact BK423.out) : P := h
theorem qq232 (h : P := by (with_reducible repeat (first | refine dN ?_ _ | refine dD ?_ | refine dA ?_ _));exact BK401.out) : P := h
theorem qq233 (h : P := by (with_reducible repeat (first | refine dN ?_ _ | refine dD ?_ | refine dA ?_ _));exact BK394.out) : P := h
theorem qq234 (h : P := by (with_reducible repeat (first | refine dN ?_ _ | refine dD ?_ | refine dA ?_ _));exact BK387.out) : P := h
theorem qq235 (h : P := by (with_reducible repeat (first | refine dN ?_ _ | refine dD ?_ | refine dA ?_ _));exact BK362.out) : P := h
theorem qq236 (h : P := by (with_reducible repeat (first | refine dN ?_ _ | refine dD ?_ | refine dA ?_ _));exact BK338.out) : P := h
theorem qq237 (h : P := by (with_reducible repeat (first | refine dN ?_ _ | refine dD ?_ | refine dA ?_ _));exact BK335.out) : P := h
theorem qq238 (h : P := by (with_reducible repeat (first | refine dN ?_ _ | refine dD ?_ | refine dA ?_ _));exact BK332.out) : P := h
theorem qq239 (h : P := by (with_reducible repeat (first | refine dN ?_ _ | refine dD ?_ | refine dA ?_ _));exact BK327.out) : P := h
theorem qq240 (h : P := by (with_reducible repeat (first | refine dN ?_ _ | refine dD ?_ | refine dA ?_ _));exact BK319.out) : P := h
theorem qq241 (h : P := by (with_reducible repeat (first | refine dN ?_ _ | refine dD ?_ | refine dA ?_ _));exact BK316.out) : P := h
theorem qq242 (h : P := by (with_reducible repeat (first | refine dN ?_ _ | refine dD ?_ | refine dA ?_ _));exact BK305.out) : P := h
theorem qq243 (h : P := by (with_reducible repeat (first | refine dN ?_ _ | refine dD ?_ | refine dA ?_ _));exact BK304.out) : P := h
theorem qq244 (h : P := by (with_reducible repeat (first | refine dN ?_ _ | refine dD ?_ | refine dA ?_ _));exact BK299.out) : P := h
theorem qq245 (h : P := by (with_reducible repeat (first | refine dN ?_ _ | refine dD ?_ | refine dA ?_ _));exact BK298.out) : P := h
theorem qq246 (h : P := by (with_reducible repeat (first | refine dN ?_ _ | refine dD ?_ | refine dA ?_ _));exact BK286.out) : P := h
theorem qq247 (h : P := by (with_reducible repeat (first | refine dN ?_ _ | refine dD ?_ | refine dA ?_ _));exact BK285.out) : P := h
theorem qq248 (h : P := by (with_reducible repeat (first | refine dN ?_ _ | refine dD ?_ | refine dA ?_ _));exact BK284.out) : P := h
theorem qq249 (h : P := by (with_reducible repeat (first | refine dN ?_ _ | refine dD ?_ | refine dA ?_ _));exact BK266.out) : P := h
theorem qq250 (h : P := by (with_reducible repeat (first | refine dN ?_ _ | refine dD ?_ | refine dA ?_ _));exact BK260.out) : P := h
theorem qq251 (h : P := by (with_reducible repeat (first | refine dN ?_ _ | refine dD ?_ | refine dA ?_ _));exact BK237.out) : P := h
theorem qq252 (h : P := by (with_reducible repeat (first | refine dN ?_ _ | refine dD ?_ | refine dA ?_ _));exact BK231.out) : P := h
theorem qq253 (h : P := by (with_reducible repeat (first | refine dN ?_ _ | refine dD ?_ | refine dA ?_ _));exact BK221.out) : P := h
theorem qq254 (h : P := by (with_reducible repeat (first | refine dN ?_ _ | refine dD ?_ | refine dA ?_ _));exact BK190.out) : P := h
theorem qq255 (h : P := by (with_reducible repeat (first | refine dN ?_ _ | refine dD ?_ | refine dA ?_ _));exact BK173.out) : P := h
theorem qq256 (h : P := by (with_reducible repeat (first | refine dN ?_ _ | refine dD ?_ | refine dA ?_ _));exact BK168.out) : P := h
theorem qq257 (h : P := by (with_reducible repeat (first | refine dN ?_ _ | refine dD ?_ | refine dA ?_ _));exact BK165.out) : P := h
theorem qq258 (h : P := by (with_reducible repeat (first | refine dN ?_ _ | refine dD ?_ | refine dA ?_ _));exact BK162.out) : P := h
theorem qq259 (h : P := by (with_reducible repeat (first | refine dN ?_ _ | refine dD ?_ | refine dA ?_ _));exact BK146.out) : P := h
theorem qq260 (h : P := by (with_reducible repeat (first | refine dN ?_ _ | refine dD ?_ | refine dA ?_ _));exact BK140.out) : P := h
theorem qq261 (h : P := by (with_reducible repeat (first | refine dN ?_ _ | refine dD ?_ | refine dA ?_ _));exact BK102.out) : P := h
theorem qq262 (h : P := by have:=HJ2.out;have:=HJ12.out;have:=HJ17.out;have:=HJ25.out;first | omega | exact Nat.le_refl _) : P := h
theorem qq263 (h : P := by first | rfl | (simp [errW_none,errW_some] <;> rfl) | (simp [*,errW_none,errW_some] <;> rfl)) : P := h
theorem qq264 (h : P := by exact qq290) : P := h
theorem qq265 (h : P := by exact (Reps.one (show Kd.M (Kd.int .i64) _ _ _ a2 [.int .i64 a2] from rfl) (Reps.none _ _))) : P := h
theorem qq266 (h : P := by exact (Reps.one (show Kd.M (Kd.int .i64) _ _ _ a1 [.int .i64 a1] from rfl) (Reps.none _ _))) : P := h
theorem qq267 (h : P := by exact qq301) : P := h
theorem qq268 (h : P := by exact qq302) : P := h
theorem qq269 (h : P := by exact qq303) : P := h
theorem qq270 (h : P := by (with_reducible repeat (first | apply kA | apply kN | apply kD));exact HO_57.out) : P := h
theorem qq271 (h : P := by (with_reducible repeat (first | apply kA | apply kN | apply kD));exact HO_29.out) : P := h
theorem qq272 (h : P := by (with_reducible repeat (first | apply kA | apply kN | apply kD));exact HO_25.out) : P := h
theorem qq273 (h : P := by (with_reducible repeat (first | apply kA | apply kN | apply kD));exact HO595.out) : P := h
theorem qq274 (h : P := by (with_reducible repeat (first | apply kA | apply kN | apply kD));exact HO592.out) : P := h
theorem qq275 (h : P := by (with_reducible repeat (first | apply kA | apply kN | apply kD));exact HO586.out) : P := h
theorem qq276 (h : P := by (with_reducible repeat (first | apply kA | apply kN | apply kD));exact HO582.out) : P := h
theorem qq277 (h : P := by (with_reducible repeat (first | apply kA | apply kN | apply kD));exact HO573.out) : P := h
theorem qq278 (h : P := by (with_reducible repeat (first | apply kA | apply kN | apply kD));exact HO570.out) : P := h
theorem qq279 (h : P := by (with_reducible repeat (first | apply kA | apply kN | apply kD));exact HO565.out) : P := h
theorem qq280 (h : P := by (with_reducible repeat (first | apply kA | apply kN | apply kD));exact HO561.out) : P := h
theorem qq281 (h : P := by (with_reducible repeat (first | apply kA | apply kN | apply kD));exact HO555.out) : P := h
theorem qq282 (h : P := by (with_reducible repeat (first | apply kA | apply kN | apply kD));exact HO552.out) : P := h
theorem qq283 (h : P := by (with_reducible repeat (first | apply kA | apply kN | apply kD));exact HO545.out) : P := h
theorem qq284 (h : P := by (with_reducible repeat (first | apply kA | apply kN | apply kD));exact HO542.out) : P := h
theorem qq285 (h : P := by (with_reducible repeat (first | apply kA | apply kN | apply kD));exact HO482.out) : P := h
theorem qq286 (h : P := by (with_reducible repeat (first | apply kA | apply kN | apply kD));exact HO435.out) : P := h
theorem qq287 (h : P := by (with_reducible repeat (first | apply kA | apply kN | apply kD));exact HO426.out) : P := h
theorem qq288 (h : P := by (with_reducible repeat (first | apply kA | apply kN | apply kD));exact HO408.out) : P := h
theorem qq289 (h : P := by (with_reducible repeat (first | apply kA | apply kN | apply kD));exact HO404.out) : P := h
theorem qq290 (h : P := by (with_reducible repeat (first | apply kA | apply kN | apply kD));exact HO353.out) : P := h
theorem qq291 (h : P := by (with_reducible repeat (first | apply kA | apply kN | apply kD));exact HO341.out) : P := h
theorem qq292 (h : P := by (with_reducible repeat (first | apply kA | apply kN | apply kD));exact HO269.out) : P := h
theorem qq293 (h : P := by (with_reducible repeat (first | apply kA | apply kN | apply kD));exact HO244.out) : P := h
theorem qq294 (h : P := by (with_reducible repeat (first | apply kA | apply kN | apply kD));exact HO241.out) : P := h
theorem qq295 (h : P := by (with_reducible repeat (first | apply kA | apply kN | apply kD));exact HO226.out) : P := h
theorem qq296 (h : P := by (with_reducible repeat (first | apply kA | apply kN | apply kD));exact HO177.out) : P := h
theorem qq297 (h : P := by (with_reducible repeat (first | apply kA | apply kN | apply kD));exact HO132.out) : P := h
theorem qq298 (h : P := by (with_reducible repeat (first | apply kA | apply kN | apply kD));exact HO129.out) : P := h
theorem qq299 (h : P := by have:=HJ2.out;have:=HJ12.out;have:=HJ17.out;first | omega | exact Nat.le_refl _) : P := h
theorem qq300 (h : P := by (with_reducible repeat (first | apply kA | apply kN | apply kD));exact HO_9.out) : P := h
theorem qq301 (h : P := by (with_reducible repeat (first | apply kA | apply kN | apply kD));exact HO_8.out) : P := h
theorem qq302 (h : P := by (with_reducible repeat (first | apply kA | apply kN | apply kD));exact HO_7.out) : P := h
theorem qq303 (h : P := by (with_reducible repeat (first | apply kA | apply kN | apply kD));exact HO_5.out) : P := h
theorem qq304 (h : P := by (with_reducible repeat (first | apply kA | apply kN | apply kD));exact HO_3.out) : P := h
theorem qq305 (h : P := by have:=HJ2.out;have:=HJ12.out;first | omega | exact Nat.le_refl _) : P := h
theorem qq306 (h : P := by have:=HK1.out;have:=HK2.out;have:=HK3.out;have:=HK4.out;omega) : P := h
theorem qq307 (h : P := by repeat (first | exact Drawn0.refl _ | apply Drawn0.step)) : P := h
theorem qq308 (h : P := by have:=HK1.out;first | omega | exact Nat.le_refl _) : P := h
theorem qq309 (h : P := by first | (with_reducible assumption) | assumption) : P := h
theorem qq310 (h : P := by have:=HK1.out;have:=HK2.out;have:=HK3.out;omega) : P := h
theorem qq311 (h : P := by first | rfl | (simp;done) | (simp [*];done)) : P := h
theorem qq312 (h : P := by first | (go_simp;done) | (go_simp;rfl)) : P := h
theorem qq313 (h : P := by first | omega | exact Nat.le_refl _) : P := h
theorem qq314 (h : P := by have:=HK1.out;have:=HK2.out;omega) : P := h
theorem qq315 (h : P := by have:=HJ3.out;have:=HK2.out;omega) : P := h
theorem qq316 (h : P := by exact (Kd.R_reads' HO586.out).2.1) : P := h
theorem qq317 (h : P := by exact (Kd.R_reads' HO582.out).2.1) : P := h
theorem qq318 (h : P := by exact (Kd.R_reads' HO573.out).2.1) : P := h
theorem qq319 (h : P := by exact (Kd.R_reads' HO570.out).2.1) : P := h
theorem qq320 (h : P := by exact (Kd.R_reads' HO565.out).2.1) : P := h
theorem qq321 (h : P := by exact (Kd.R_reads' HO561.out).2.1) : P := h
theorem qq322 (h : P := by exact (Kd.R_reads' HO555.out).2.1) : P := h
theorem qq323 (h : P := by exact (Kd.R_reads' HO552.out).2.1) : P := h
theorem qq324 (h : P := by exact (Kd.R_reads' HO545.out).2.1) : P := h
theorem qq325 (h : P := by exact (Kd.R_reads' HO542.out).2.1) : P := h
theorem qq326 (h : P := by exact (Kd.R_reads' HO241.out).2.1) : P := h
theorem qq327 (h : P := by exact (Kd.V_reads' HO_1.out).2.1) : P := h
theorem qq328 (h : P := by exact (fun _ _ => trivial)) : P := h
theorem qq329 (h : P := by have:=LMc39.out;omega) : P := h
theorem qq330 (h : P := by exact (Reps.none _ _)) : P := h
theorem qq331 (h : P := by have:=HK1.out;omega) : P := h
theorem qq332 (h : P := by exact HC4_3.out) : P := h
theorem qq333 (h : P := by exact HC4_2.out) : P := h
theorem qq334 (h : P := by exact HC0_2.out) : P := h
theorem qq335 (h : P := by exact blk_grown (g:=gb338) (o:=.cells #[.int .i64 a0_0,.int .i64 a0_1,.slice (some ad354) l0_2.length c0_2] 51 (0,0)) qq236 hg (Kd.R_ne HO353.out BK338.out (by decide))) : P := h
theorem qq336 (h : P := by exact blk_grown (g:=gb338) (o:=.cells #[.int .i64 a0_0,.int .i64 a0_1,.slice (some ad358) l0_2.length c0_2] 51 (0,0)) qq236 hg (Kd.R_ne HO_5.out BK338.out (by decide))) : P := h
theorem qq337 (h : P := by exact blk_grown (g:=gb266) (o:=.cells #[.int .i64 ((rd_T76 l2 x19_1).f0),.int .i64 ((rd_T76 l2 x19_1).f1)] 76 (0,0)) qq249 hg (Kd.R_ne HO_7.out BK266.out (by decide))) : P := h
theorem qq338 (h : P := by exact blk_grown (g:=gb401) (o:=.cells #[.int .i64 a0_0,.int .i64 a0_1,.slice A0_2 l0_2.length c0_2] 51 (0,0)) qq232 hg (Kd.R_ne HO404.out BK401.out (by decide))) : P := h
theorem qq339 (h : P := by exact blk_grown (g:=gb190) (o:=.cells #[.int .i64 a0_0,.int .i64 a0_1,.slice A0_2 l0_2.length c0_2] 51 (0,0)) qq254 hg (Kd.R_ne HO_5.out BK190.out (by decide))) : P := h
theorem qq340 (h : P := by exact blk_grown (g:=gb190) (o:=.cells #[.int .i64 a0_0,.int .i64 a0_1,.slice A0_2 l0_2.length c0_2] 51 (0,0)) qq254 hg (Kd.Q_ne HO_6.out BK190.out (by decide))) : P := h
theorem qq341 (h : P := by exact blk_grown (g:=gb237) (o:=.cells #[.int .i64 a0_0,.int .i64 a0_1,.slice A0_2 l0_2.length c0_2] 51 (0,0)) qq251 hg (Kd.R_ne HO_8.out BK237.out (by decide))) : P := h
theorem qq342 (h : P := by exact blk_grown (g:=gb260) (o:=.cells #[.int .i64 a0_0,.int .i64 a0_1,.slice A0_2 l0_2.length c0_2] 51 (0,0)) qq250 hg (Kd.R_ne HO_7.out BK260.out (by decide))) : P := h
theorem qq343 (h : P := by exact blk_grown (g:=gb338) (o:=.cells #[.int .i64 a0_0,.int .i64 a0_1,.slice A0_2 l0_2.length c0_2] 51 (0,0)) qq236 hg (Kd.R_ne HO_5.out BK338.out (by decide))) : P := h
theorem qq344 (h : P := by exact blk_grown (g:=gb362) (o:=.cells #[.int .i64 a0_0,.int .i64 a0_1,.slice A0_2 l0_2.length c0_2] 51 (0,0)) qq235 hg (Kd.R_ne HO_5.out BK362.out (by decide))) : P := h
theorem qq345 (h : P := by exact blk_grown (g:=gb401) (o:=.cells #[.int .i64 a0_0,.int .i64 a0_1,.slice A0_2 l0_2.length c0_2] 51 (0,0)) qq232 hg (Kd.R_ne HO_7.out BK401.out (by decide))) : P := h
theorem qq346 (h : P := by exact blk_grown (g:=gb423) (o:=.cells #[.int .i64 a0_0,.int .i64 a0_1,.slice A0_2 l0_2.length c0_2] 51 (0,0)) qq231 hg (Kd.R_ne HO_7.out BK423.out (by decide))) : P := h
theorem qq347 (h : P := by exact blk_below (g:=gb574) (o:=.cells #[.int .i64 t566,.int .i64 t567,.slice Ao149 t568.length co149,.slice Ao150 t571.length co150] 27 (0,0)) qq212 hb) : P := h
theorem qq348 (h : P := by exact blk_below (g:=gb574) (o:=.cells #[.int .i64 t566,.int .i64 t567,.slice Ao205 t568.length co205,.slice Ao206 t571.length co206] 27 (0,0)) qq212 hb) : P := h
theorem qq349 (h : P := by exact blk_below (g:=gb574) (o:=.cells #[.int .i64 t566,.int .i64 t567,.slice Ao256 t568.length co256,.slice Ao257 t571.length co257] 27 (0,0)) qq212 hb) : P := h
theorem qq350 (h : P := by exact blk_below (g:=gb574) (o:=.cells #[.int .i64 t566,.int .i64 t567,.slice Ao304 t568.length co304,.slice Ao305 t571.length co305] 27 (0,0)) qq212 hb) : P := h
theorem qq351 (h : P := by exact blk_below (g:=gb286) (o:=.cells #[.int .i64 a4_0,.int .i64 a4_1,.slice A4_2 l4_2.length c4_2,.slice A4_3 l4_3.length c4_3] 27 (0,0)) qq246 hb) : P := h
theorem qq352 (h : P := by exact blk_below (g:=gb487) (o:=.cells #[.int .i64 a4_0,.int .i64 a4_1,.slice A4_2 l4_2.length c4_2,.slice A4_3 l4_3.length c4_3] 27 (0,0)) qq226 hb) : P := h
theorem qq353 (h : P := by exact blk_below (g:=gb512) (o:=.cells #[.int .i64 a0_0,.int .i64 a0_1,.slice A0_2 l0_2.length c0_2,.slice A0_3 l0_3.length c0_3] 97 (0,0)) qq221 hb) : P := h
theorem qq354 (h : P := by exact blk_below (g:=gb528) (o:=.cells #[.int .i64 a0_0,.int .i64 a0_1,.slice A0_2 l0_2.length c0_2,.slice A0_3 l0_3.length c0_3] 27 (0,0)) qq218 hb) : P := h
theorem qq355 (h : P := by exact blk_below (g:=gb529) (o:=.cells #[.int .i64 a1_0,.int .i64 a1_1,.slice A1_2 l1_2.length c1_2,.slice A1_3 l1_3.length c1_3] 27 (0,0)) qq217 hb) : P := h
theorem qq356 (h : P := by exact blk_below (g:=gb534) (o:=.cells #[.int .i64 a4_0,.int .i64 a4_1,.slice A4_2 l4_2.length c4_2,.slice A4_3 l4_3.length c4_3] 97 (0,0)) qq214 hb) : P := h
theorem qq357 (h : P := by exact blk_below (g:=gb574) (o:=.cells #[.int .i64 t566,.int .i64 t567,.slice Ao93 t568.length co93,.slice Ao94 t571.length co94] 27 (0,0)) qq212 hb) : P := h
theorem qq358 (h : P := by exact blk_below (g:=gb534) (o:=.cells #[.int .i64 a4_0,.int .i64 a4_1,.slice A4_2 l4_2.length c4_2,.slice A4_3 l4_3.length c4_3] 97 (0,0)) qq7 hb) : P := h
theorem qq359 (h : P := by exact blk_grown (g:=gb470) (o:=.cells #[.int .i64 a0_0,.int .i64 a0_1] 37 (0,0)) qq229 hg (Kd.R_ne HO_7.out BK470.out (by decide))) : P := h
theorem qq360 (h : P := by exact blk_below (g:=gb234) (o:=.cells #[.int .i64 ((rd_T76 l2 x20_2).f0),.int .i64 ((rd_T76 l2 x20_2).f1)] 76 (0,0)) qq10 hb) : P := h
theorem qq361 (h : P := by exact Kd.R_lower (Kd.R_newM (M:=fun k_ => (w.heap.size ≤ k_)) ho0 (below_size qq183) (fun k_ h_ => h_)) (below_size qq183)) : P := h
theorem qq362 (h : P := by exact blk_below (g:=gb562) (o:=.cells #[.int .i64 t557,.int .i64 t558,.slice Ao139 t559.length co139] 51 (0,0)) qq213 hb) : P := h
theorem qq363 (h : P := by exact blk_below (g:=gb562) (o:=.cells #[.int .i64 t557,.int .i64 t558,.slice Ao195 t559.length co195] 51 (0,0)) qq213 hb) : P := h
theorem qq364 (h : P := by exact blk_below (g:=gb562) (o:=.cells #[.int .i64 t557,.int .i64 t558,.slice Ao246 t559.length co246] 51 (0,0)) qq213 hb) : P := h
theorem qq365 (h : P := by exact blk_below (g:=gb562) (o:=.cells #[.int .i64 t557,.int .i64 t558,.slice Ao294 t559.length co294] 51 (0,0)) qq213 hb) : P := h
theorem qq366 (h : P := by exact blk_below (g:=gb162) (o:=.cells #[.int .i64 a0_0,.int .i64 a0_1,.slice A0_2 l0_2.length c0_2] 51 (0,0)) qq258 hb) : P := h
theorem qq367 (h : P := by exact blk_below (g:=gb165) (o:=.cells #[.int .i64 a0_0,.int .i64 a0_1,.slice A0_2 l0_2.length c0_2] 51 (0,0)) qq257 hb) : P := h
theorem qq368 (h : P := by exact blk_below (g:=gb168) (o:=.cells #[.int .i64 a0_0,.int .i64 a0_1,.slice A0_2 l0_2.length c0_2] 51 (0,0)) qq256 hb) : P := h
theorem qq369 (h : P := by exact blk_below (g:=gb173) (o:=.cells #[.int .i64 a0_0,.int .i64 a0_1,.slice A0_2 l0_2.length c0_2] 51 (0,0)) qq255 hb) : P := h
theorem qq370 (h : P := by exact blk_below (g:=gb190) (o:=.cells #[.int .i64 a0_0,.int .i64 a0_1,.slice A0_2 l0_2.length c0_2] 51 (0,0)) qq254 hb) : P := h
theorem qq371 (h : P := by exact blk_below (g:=gb221) (o:=.cells #[.int .i64 a0_0,.int .i64 a0_1,.slice A0_2 l0_2.length c0_2] 51 (0,0)) qq253 hb) : P := h
theorem qq372 (h : P := by exact blk_below (g:=gb231) (o:=.cells #[.int .i64 a0_0,.int .i64 a0_1,.slice A0_2 l0_2.length c0_2] 51 (0,0)) qq252 hb) : P := h
theorem qq373 (h : P := by exact blk_below (g:=gb237) (o:=.cells #[.int .i64 a0_0,.int .i64 a0_1,.slice A0_2 l0_2.length c0_2] 51 (0,0)) qq251 hb) : P := h
theorem qq374 (h : P := by exact blk_below (g:=gb260) (o:=.cells #[.int .i64 a0_0,.int .i64 a0_1,.slice A0_2 l0_2.length c0_2] 51 (0,0)) qq250 hb) : P := h
theorem qq375 (h : P := by exact blk_below (g:=gb284) (o:=.cells #[.int .i64 a0_0,.int .i64 a0_1,.slice A0_2 l0_2.length c0_2] 51 (0,0)) qq248 hb) : P := h
theorem qq376 (h : P := by exact blk_below (g:=gb298) (o:=.cells #[.int .i64 a0_0,.int .i64 a0_1,.slice A0_2 l0_2.length c0_2] 81 (0,0)) qq245 hb) : P := h
theorem qq377 (h : P := by exact blk_below (g:=gb316) (o:=.cells #[.int .i64 a0_0,.int .i64 a0_1,.slice A0_2 l0_2.length c0_2] 51 (0,0)) qq241 hb) : P := h
theorem qq378 (h : P := by exact blk_below (g:=gb332) (o:=.cells #[.int .i64 a0_0,.int .i64 a0_1,.slice A0_2 l0_2.length c0_2] 51 (0,0)) qq238 hb) : P := h
theorem qq379 (h : P := by exact blk_below (g:=gb335) (o:=.cells #[.int .i64 a0_0,.int .i64 a0_1,.slice A0_2 l0_2.length c0_2] 51 (0,0)) qq237 hb) : P := h
theorem qq380 (h : P := by exact blk_below (g:=gb338) (o:=.cells #[.int .i64 a0_0,.int .i64 a0_1,.slice A0_2 l0_2.length c0_2] 51 (0,0)) qq236 hb) : P := h
theorem qq381 (h : P := by exact blk_below (g:=gb362) (o:=.cells #[.int .i64 a0_0,.int .i64 a0_1,.slice A0_2 l0_2.length c0_2] 51 (0,0)) qq235 hb) : P := h
theorem qq382 (h : P := by exact blk_below (g:=gb387) (o:=.cells #[.int .i64 a0_0,.int .i64 a0_1,.slice A0_2 l0_2.length c0_2] 51 (0,0)) qq234 hb) : P := h
theorem qq383 (h : P := by exact blk_below (g:=gb394) (o:=.cells #[.int .i64 a0_0,.int .i64 a0_1,.slice A0_2 l0_2.length c0_2] 51 (0,0)) qq233 hb) : P := h
theorem qq384 (h : P := by exact blk_below (g:=gb401) (o:=.cells #[.int .i64 a0_0,.int .i64 a0_1,.slice A0_2 l0_2.length c0_2] 51 (0,0)) qq232 hb) : P := h
theorem qq385 (h : P := by exact blk_below (g:=gb423) (o:=.cells #[.int .i64 a0_0,.int .i64 a0_1,.slice A0_2 l0_2.length c0_2] 51 (0,0)) qq231 hb) : P := h
theorem qq386 (h : P := by exact blk_below (g:=gb485) (o:=.cells #[.int .i64 a0_0,.int .i64 a0_1,.slice A0_2 l0_2.length c0_2] 51 (0,0)) qq228 hb) : P := h
theorem qq387 (h : P := by exact blk_below (g:=gb532) (o:=.cells #[.int .i64 a0_0,.int .i64 a0_1,.slice A0_2 l0_2.length c0_2] 81 (0,0)) qq216 hb) : P := h
theorem qq388 (h : P := by exact blk_below (g:=gb562) (o:=.cells #[.int .i64 t557,.int .i64 t558,.slice Ao83 t559.length co83] 51 (0,0)) qq213 hb) : P := h
theorem qq389 (h : P := by exact blk_below (g:=gb231) (o:=.cells #[.int .i64 a0_0,.int .i64 a0_1,.slice A0_2 l0_2.length c0_2] 51 (0,0)) qq16 hb) : P := h
theorem qq390 (h : P := by exact blk_below (g:=gb495) (o:=.cells #[.int .i64 a0_0,.int .i64 a0_1,.int .i64 a0_2,.bool a0_3] 152 (0,0)) qq223 hb) : P := h
theorem qq391 (h : P := by exact blk_below (g:=gb521) (o:=.cells #[.int .i64 a0_0,.int .i64 a0_1,.int .i64 a0_2,.bool a0_3] 112 (0,0)) qq219 hb) : P := h
theorem qq392 (h : P := by exact blk_below (g:=gb532) (o:=.cells #[.int .i64 a0_0,.int .i64 a0_1,.slice A0_2 l0_2.length c0_2] 81 (0,0)) qq9 hb) : P := h
theorem qq393 (h : P := by exact Kd.R_after (ok:=(fun k_ => some k_ ≠ (.slice (some ad251) t248.length co24 : Value).ownBlock)) qq200 hg hat) : P := h
theorem qq394 (h : P := by exact Kd.R_after (ok:=(fun k_ => some k_ ≠ (.slice (some ad252) t242.length co34 : Value).ownBlock)) qq271 hg hat) : P := h
theorem qq395 (h : P := by exact Kd.R_after (ok:=(fun k_ => some k_ ≠ (.slice Ao24 t248.length co24 : Value).ownBlock)) qq200 hg hat) : P := h
theorem qq396 (h : P := by exact Kd.R_after (ok:=(fun k_ => some k_ ≠ (.slice Ao25 t412.length co25 : Value).ownBlock)) qq199 hg hat) : P := h
theorem qq397 (h : P := by exact Kd.R_lower (Kd.R_new' (Kd.R_new' ho19 (Kd.R_lt qq294)) (Kd.R_lt qq293)) (below_size qq174)) : P := h
theorem qq398 (h : P := by exact Kd.R_lower (Kd.R_new' (Kd.R_new' ho0 (Kd.R_lt qq302)) (Kd.R_lt qq301)) (below_size qq174)) : P := h
theorem qq399 (h : P := by exact Kd.R_lower (Kd.R_new' (Kd.R_new' ho0 (Kd.R_lt qq302)) (Kd.R_lt qq301)) (below_size qq157)) : P := h
theorem qq400 (h : P := by exact Kd.R_lower (Kd.R_new' (Kd.R_new' ho0 (Kd.R_lt qq284)) (Kd.R_lt qq280)) (below_size qq21)) : P := h
theorem qq401 (h : P := by exact Kd.R_lower (Kd.R_new' (Kd.R_new' ho0 (Kd.R_lt qq283)) (Kd.R_lt qq279)) (below_size qq21)) : P := h
theorem qq402 (h : P := by exact Kd.R_lower (Kd.R_new' (Kd.R_new' ho0 (Kd.R_lt qq282)) (Kd.R_lt qq278)) (below_size qq21)) : P := h
theorem qq403 (h : P := by exact Kd.R_lower (Kd.R_new' (Kd.R_new' ho1 (Kd.R_lt qq281)) (Kd.R_lt qq277)) (below_size qq21)) : P := h
theorem qq404 (h : P := by exact blk_below (g:=gb304) (o:=.cells #[.int .i64 a0_0,.int .i64 a0_1] 130 (0,0)) qq243 hb) : P := h
theorem qq405 (h : P := by exact blk_below (g:=gb140) (o:=.cells #[.int .i64 a0_0,.int .i64 a0_1] 37 (0,0)) qq260 hb) : P := h
theorem qq406 (h : P := by exact blk_below (g:=gb146) (o:=.cells #[.int .i64 a0_0,.int .i64 a0_1] 37 (0,0)) qq259 hb) : P := h
theorem qq407 (h : P := by exact blk_below (g:=gb285) (o:=.cells #[.int .i64 a3_0,.int .i64 a3_1] 37 (0,0)) qq247 hb) : P := h
theorem qq408 (h : P := by exact blk_below (g:=gb319) (o:=.cells #[.int .i64 a0_0,.int .i64 a0_1] 76 (0,0)) qq240 hb) : P := h
theorem qq409 (h : P := by exact blk_below (g:=gb465) (o:=.cells #[.int .i64 a0_0,.int .i64 a0_1] 37 (0,0)) qq230 hb) : P := h
theorem qq410 (h : P := by exact blk_below (g:=gb470) (o:=.cells #[.int .i64 a0_0,.int .i64 a0_1] 37 (0,0)) qq229 hb) : P := h
theorem qq411 (h : P := by exact blk_below (g:=gb486) (o:=.cells #[.int .i64 a3_0,.int .i64 a3_1] 37 (0,0)) qq227 hb) : P := h
theorem qq412 (h : P := by exact blk_below (g:=gb492) (o:=.cells #[.int .i64 a0_0,.int .i64 a0_1] 94 (0,0)) qq225 hb) : P := h
theorem qq413 (h : P := by exact blk_below (g:=gb533) (o:=.cells #[.int .i64 a3_0,.int .i64 a3_1] 94 (0,0)) qq215 hb) : P := h
theorem qq414 (h : P := by exact blk_below (g:=gb533) (o:=.cells #[.int .i64 a3_0,.int .i64 a3_1] 94 (0,0)) qq8 hb) : P := h
theorem qq415 (h : P := by exact Kd.R_after (ok:=(fun k_ => some k_ ≠ (v243 : Value).ownBlock)) qq271 hg hat) : P := h
theorem qq416 (h : P := by exact Kd.R_after (ok:=(fun k_ => some k_ ≠ (v407 : Value).ownBlock)) qq198 hg hat) : P := h
theorem qq417 (h : P := by exact Kd.R_lower (Kd.R_new' ho0 (Kd.R_lt qq294)) (below_size qq174)) : P := h
theorem qq418 (h : P := by exact Kd.R_lower (Kd.R_new' ho0 (Kd.R_lt qq289)) (below_size qq157)) : P := h
theorem qq419 (h : P := by exact Kd.R_lower (Kd.R_new' ho0 (Kd.R_lt qq284)) (below_size qq66)) : P := h
theorem qq420 (h : P := by exact Kd.R_lower (Kd.R_new' ho0 (Kd.R_lt qq282)) (below_size qq44)) : P := h
theorem qq421 (h : P := by exact Kd.R_lower (Kd.R_new' ho1 (Kd.R_lt qq281)) (below_size qq44)) : P := h
theorem qq422 (h : P := by exact Kd.R_after (ok:=(fun _ => True)) qq288 hg hat) : P := h
theorem qq423 (h : P := by exact Kd.R_elder' qq302 (Kd.R_base ho0) hb) : P := h
theorem qq424 (h : P := by exact Kd.R_elder' qq301 (Kd.R_base ho0) hb) : P := h
theorem qq425 (h : P := by exact Kd.R_elder' qq284 (Kd.R_base ho0) hb) : P := h
theorem qq426 (h : P := by exact Kd.R_elder' qq282 (Kd.R_base ho0) hb) : P := h
theorem qq427 (h : P := by exact Kd.R_elder' qq281 (Kd.R_base ho1) hb) : P := h
theorem qq428 (h : P := by exact Kd.R_elder' qq280 (Kd.R_base ho0) hb) : P := h
theorem qq429 (h : P := by exact Kd.R_lower ho5 (below_size qq208)) : P := h
theorem qq430 (h : P := by exact Kd.R_lower ho0 (below_size qq66)) : P := h
theorem qq431 (h : P := by exact Kd.R_lower ho1 (below_size qq66)) : P := h
theorem qq432 (h : P := by exact (qq144 : w.heap.size ≤ gb113)) : P := h
theorem qq433 (h : P := by exact (qq144 : w.heap.size ≤ gb140)) : P := h
theorem qq434 (h : P := by exact (qq144 : w.heap.size ≤ gb158)) : P := h
theorem qq435 (h : P := by exact (qq144 : w.heap.size ≤ gb162)) : P := h
theorem qq436 (h : P := by exact (qq144 : w.heap.size ≤ gb165)) : P := h
theorem qq437 (h : P := by exact (qq144 : w.heap.size ≤ gb173)) : P := h
theorem qq438 (h : P := by exact (qq144 : w.heap.size ≤ gb221)) : P := h
theorem qq439 (h : P := by exact (qq144 : w.heap.size ≤ gb237)) : P := h
theorem qq440 (h : P := by exact (qq144 : w.heap.size ≤ gb260)) : P := h
theorem qq441 (h : P := by exact (qq144 : w.heap.size ≤ gb291)) : P := h
theorem qq442 (h : P := by exact (qq144 : w.heap.size ≤ gb316)) : P := h
theorem qq443 (h : P := by exact (qq144 : w.heap.size ≤ gb319)) : P := h
theorem qq444 (h : P := by exact (qq144 : w.heap.size ≤ gb324)) : P := h
theorem qq445 (h : P := by exact (qq144 : w.heap.size ≤ gb332)) : P := h
theorem qq446 (h : P := by exact (qq144 : w.heap.size ≤ gb335)) : P := h
theorem qq447 (h : P := by exact (qq144 : w.heap.size ≤ gb338)) : P := h
theorem qq448 (h : P := by exact (qq144 : w.heap.size ≤ gb387)) : P := h
theorem qq449 (h : P := by exact (qq144 : w.heap.size ≤ gb401)) : P := h
theorem qq450 (h : P := by exact (qq144 : w.heap.size ≤ gb423)) : P := h
theorem qq451 (h : P := by exact (qq144 : w.heap.size ≤ gb461)) : P := h
theorem qq452 (h : P := by exact (qq144 : w.heap.size ≤ gb465)) : P := h
theorem qq453 (h : P := by exact (qq144 : w.heap.size ≤ gb521)) : P := h
theorem qq454 (h : P := by exact (qq144 : w.heap.size ≤ gb528)) : P := h
theorem qq455 (h : P := by exact (qq144 : w.heap.size ≤ gb532)) : P := h
theorem qq456 (h : P := by exact (qq88 : w.heap.size ≤ gb234)) : P := h
theorem qq457 (h : P := by exact (qq83 : w.heap.size ≤ gb317)) : P := h
theorem qq458 (h : P := by exact (qq82 : w.heap.size ≤ gb320)) : P := h
theorem qq459 (h : P := by exact (qq77 : w.heap.size ≤ gb522)) : P := h
theorem qq460 (h : P := by exact (qq76 : w.heap.size ≤ gb529)) : P := h
theorem qq461 (h : P := by exact (qq75 : w.heap.size ≤ gb533)) : P := h
theorem qq462 (h : P := by exact (qq58 : w.heap.size ≤ gb534)) : P := h
theorem qq463 (h : P := by exact (qq43 : w.heap.size ≤ gb562)) : P := h
theorem qq464 (h : P := by exact (qq20 : w.heap.size ≤ gb574)) : P := h
theorem qq465 (h : P := by exact Below.refl w.heap.size w) : P := h
theorem qq466 (h : P := by exact (qq45 : gb521 ≠ gb522)) : P := h
theorem qq467 (h : P := by exact (qq47 : gb522 ≠ gb521)) : P := h
theorem qq468 (h : P := by exact (qq23 : gb528 ≠ gb529)) : P := h
theorem qq469 (h : P := by exact (qq26 : gb529 ≠ gb528)) : P := h
theorem qq470 (h : P := by exact (qq31 : gb532 ≠ gb533)) : P := h
theorem qq471 (h : P := by exact (qq37 : gb533 ≠ gb532)) : P := h
theorem qq472 (h : P := by exact (qq31 : gb532 ≠ gb534)) : P := h
theorem qq473 (h : P := by exact (qq37 : gb534 ≠ gb532)) : P := h
theorem qq474 (h : P := by exact (qq52 : gb533 ≠ gb534)) : P := h
theorem qq475 (h : P := by exact (qq55 : gb534 ≠ gb533)) : P := h
theorem qq476 (h : P := by exact (qq31 : gb532 ≠ gb562)) : P := h
theorem qq477 (h : P := by exact (qq37 : gb562 ≠ gb532)) : P := h
theorem qq478 (h : P := by exact (qq52 : gb533 ≠ gb562)) : P := h
theorem qq479 (h : P := by exact (qq55 : gb562 ≠ gb533)) : P := h
theorem qq480 (h : P := by exact (qq22 : gb534 ≠ gb562)) : P := h
theorem qq481 (h : P := by exact (qq25 : gb562 ≠ gb534)) : P := h
theorem qq482 (h : P := by exact (qq31 : gb532 ≠ gb574)) : P := h
theorem qq483 (h : P := by exact (qq37 : gb574 ≠ gb532)) : P := h
theorem qq484 (h : P := by exact (qq52 : gb533 ≠ gb574)) : P := h
theorem qq485 (h : P := by exact (qq55 : gb574 ≠ gb533)) : P := h
theorem qq486 (h : P := by exact (qq22 : gb534 ≠ gb574)) : P := h
theorem qq487 (h : P := by exact (qq25 : gb574 ≠ gb534)) : P := h
theorem qq488 (h : P := by exact below_step qq208 hb) : P := h
theorem qq489 (h : P := by exact below_step qq183 hb) : P := h
theorem qq490 (h : P := by exact below_step qq178 hb) : P := h
theorem qq491 (h : P := by exact Kd.R_below qq303 hb) : P := h
theorem qq492 (h : P := by exact below_step qq177 hb) : P := h
theorem qq493 (h : P := by exact below_step qq176 hb) : P := h
theorem qq494 (h : P := by exact below_step qq174 hb) : P := h
theorem qq495 (h : P := by exact below_step qq159 hb) : P := h
theorem qq496 (h : P := by exact below_step qq157 hb) : P := h
theorem qq497 (h : P := by exact Kd.R_below qq289 hb) : P := h
theorem qq498 (h : P := by exact below_step qq152 hb) : P := h
theorem qq499 (h : P := by exact below_step qq145 hb) : P := h
theorem qq500 (h : P := by exact Kd.R_below qq284 hb) : P := h
theorem qq501 (h : P := by exact Kd.R_below qq283 hb) : P := h
theorem qq502 (h : P := by exact Kd.R_below qq282 hb) : P := h
theorem qq503 (h : P := by exact Kd.R_below qq281 hb) : P := h
theorem qq504 (h : P := by exact Kd.R_below qq280 hb) : P := h
theorem qq505 (h : P := by exact Kd.R_below qq279 hb) : P := h
theorem qq506 (h : P := by exact Kd.R_below qq278 hb) : P := h
theorem qq507 (h : P := by exact Kd.R_below qq277 hb) : P := h
theorem qq508 (h : P := by exact Kd.R_drew HO542.out) : P := h
theorem qq509 (h : P := by exact Kd.R_drew HO545.out) : P := h
theorem qq510 (h : P := by exact Kd.R_drew HO552.out) : P := h
theorem qq511 (h : P := by exact Kd.R_drew HO555.out) : P := h
theorem qq512 (h : P := by exact Kd.R_drew HO561.out) : P := h
theorem qq513 (h : P := by exact Kd.R_drew HO565.out) : P := h
theorem qq514 (h : P := by exact Kd.R_drew HO570.out) : P := h
theorem qq515 (h : P := by exact Kd.R_drew HO573.out) : P := h
theorem qq516 (h : P := by exact Kd.R_below qq276 hb) : P := h
theorem qq517 (h : P := by exact Kd.R_below qq275 hb) : P := h
theorem qq518 (h : P := by exact blk_drew BK102.out) : P := h
theorem qq519 (h : P := by exact below_drew1 HB.out) : P := h
theorem qq520 (h : P := by exact below_step qq89 hb) : P := h
theorem qq521 (h : P := by exact below_step qq66 hb) : P := h
theorem qq522 (h : P := by exact blk_drew BK532.out) : P := h
theorem qq523 (h : P := by exact blk_drew BK533.out) : P := h
theorem qq524 (h : P := by exact blk_drew BK534.out) : P := h
theorem qq525 (h : P := by exact below_step qq44 hb) : P := h
theorem qq526 (h : P := by exact blk_drew BK562.out) : P := h
theorem qq527 (h : P := by exact blk_drew BK574.out) : P := h
theorem qq528 (h : P := by exact below_step qq21 hb) : P := h
end
end Go.Proofs.Ytcbkknpmeknppaa.PFnExactPlanFood
