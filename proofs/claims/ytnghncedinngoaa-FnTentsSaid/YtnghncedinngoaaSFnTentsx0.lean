/- Contracts of functions that the law FnTents reaches, for its row: lines that the kit's printer wrote for this claim, set shorter by a program of this session (own.py), and what fell in Lean proved anew. Lean checks them. -/
import Derived.Test.YtnghncedinngoaaProg
import Derived.Below
import Derived.Deep.Draws
import Derived.Deep.AppendLies
import Derived.Maps.AppendAt
import Derived.OwnWalk
import Derived.Laws.BytesArg
import Derived.Laws.MakeOwn
import Derived.Laws.OwnMore
import Derived.Deep.OwnRows
import Derived.Tactics
import Derived.Lib.ConvBytes
import Derived.Laws.Slices
import Derived.WalkKit
import Derived.KernelRfl
import Derived.RowKit3
import Derived.Deep.LoopGhost
import Derived.Deep.QuietTactic
import Derived.BigQuiet
import Derived.WideLaws
import Derived.Deep.DeepCutAuto
import Derived.Deep.CutBlock
import Derived.Deep.RegionHeld3
import Derived.Laws.Rows
import Derived.Lib.AppendStr
import Derived.ArgAppend
import Derived.Laws.IdiomCopy
import Derived.OrdersHeld
import Derived.Laws.BitsLemmas
import Derived.RowKit
import Derived.Test.YtnghncedinngoaaWWords
import Derived.Test.YtnghncedinngoaaWLast
import Derived.Test.YtnghncedinngoaaWTab
import Derived.Test.YtnghncedinngoaaWFour
import Derived.Test.YtnghncedinngoaaWQPut
import Derived.Test.YtnghncedinngoaaWApart
import Derived.Test.YtnghncedinngoaaWArr
import Derived.Test.YtnghncedinngoaaWZeros
import Derived.Test.YtnghncedinngoaaWFoot
import Derived.Test.YtnghncedinngoaaWKept
import Derived.Test.YtnghncedinngoaaWShare
import Derived.Test.YtnghncedinngoaaWN
import Derived.Test.YtnghncedinngoaaWFootNe
import Derived.Test.YtnghncedinngoaaWAt
import Derived.Test.YtnghncedinngoaaWEqStruct
import Derived.Test.YtnghncedinngoaaWRepsOne
import Derived.Test.YtnghncedinngoaaWInv
import Derived.Test.YtnghncedinngoaaWInvWords
import Derived.Test.YtnghncedinngoaaWGuard
import Derived.Test.YtnghncedinngoaaWNEv
import Derived.Test.YtnghncedinngoaaWMore
namespace Go.Proofs.Ytnghncedinngoaa.PFnTents
open Go.RowKit Go.Proofs.YtnghncedinngoaaW.PrintWords Go.Proofs.YtnghncedinngoaaW.PrintLast Go.Proofs.YtnghncedinngoaaW.PrintMore
attribute [local go_sem] max2_int min2_int max_two min_two max_three min_three max_four min_four   -- for this text's walks alone
set_option linter.unusedVariables false
set_option linter.unusedSimpArgs false



theorem ct {w w' : World} {a : Addr} {v : Value} (h : Below w.heap.size w w') (e : w.cell? a = some v) : w'.cell? a = some v := (h.cell (World.block_lt_of_cell? w _ e)).trans e
theorem sA {α : Type} (l : List α) (i : Nat) (a : α) : l.toArray.setIfInBounds i a = (l.set i a).toArray := List.setIfInBounds_toArray ..
theorem s0 {α : Type} {x a : α} {xs : List α} : (x :: xs).set 0 a = a :: xs := rfl
theorem s1 {α : Type} {n : Nat} {x a : α} {xs : List α} : (x :: xs).set (n + 1) a = x :: xs.set n a := rfl
abbrev am {P : Prop} (h : P) : Aside0 P := ⟨h⟩
abbrev bl := @World.block_lt_of_cell?
abbrev bA := @below_alloc
abbrev bN := @pw_below_drewN
abbrev bD := @below_drew1
abbrev kA := @Kd.R_alloc
abbrev kN := @Kd.R_drewN
abbrev kD := @Kd.R_drew
abbrev cA := @Kd.C_alloc
abbrev cN := @Kd.C_drewN
abbrev cD := @Kd.C_drew
abbrev dN := @blk_drewN
abbrev dD := @blk_drew
abbrev dA := @blk_alloc
abbrev bS := @Option.bind_eq_some_iff
abbrev odt := @of_decide_eq_true
theorem bcl1 {w : World} {g : Nat} {t : TypeId} {x0 : Value} (h : w.heap[g]? = some (.cells #[x0] t (0, 0))) : w.cell? ⟨g, 0, none⟩ = some x0 ∧ w.frozen? ⟨g, 0, none⟩ = false := ⟨(blk_cell h 0).trans rfl, blk_frozen h 0⟩
theorem bcl2 {w : World} {g : Nat} {t : TypeId} {x0 x1 : Value} (h : w.heap[g]? = some (.cells #[x0, x1] t (0, 0))) : w.cell? ⟨g, 0, none⟩ = some x0 ∧ w.cell? ⟨g, 1, none⟩ = some x1 ∧ w.frozen? ⟨g, 0, none⟩ = false ∧ w.frozen? ⟨g, 1, none⟩ = false := ⟨(blk_cell h 0).trans rfl, (blk_cell h 1).trans rfl, blk_frozen h 0, blk_frozen h 1⟩
theorem bcl3 {w : World} {g : Nat} {t : TypeId} {x0 x1 x2 : Value} (h : w.heap[g]? = some (.cells #[x0, x1, x2] t (0, 0))) : w.cell? ⟨g, 0, none⟩ = some x0 ∧ w.cell? ⟨g, 1, none⟩ = some x1 ∧ w.cell? ⟨g, 2, none⟩ = some x2 ∧ w.frozen? ⟨g, 0, none⟩ = false ∧ w.frozen? ⟨g, 1, none⟩ = false ∧ w.frozen? ⟨g, 2, none⟩ = false := ⟨(blk_cell h 0).trans rfl, (blk_cell h 1).trans rfl, (blk_cell h 2).trans rfl, blk_frozen h 0, blk_frozen h 1, blk_frozen h 2⟩
theorem bcl4 {w : World} {g : Nat} {t : TypeId} {x0 x1 x2 x3 : Value} (h : w.heap[g]? = some (.cells #[x0, x1, x2, x3] t (0, 0))) : w.cell? ⟨g, 0, none⟩ = some x0 ∧ w.cell? ⟨g, 1, none⟩ = some x1 ∧ w.cell? ⟨g, 2, none⟩ = some x2 ∧ w.cell? ⟨g, 3, none⟩ = some x3 ∧ w.frozen? ⟨g, 0, none⟩ = false ∧ w.frozen? ⟨g, 1, none⟩ = false ∧ w.frozen? ⟨g, 2, none⟩ = false ∧ w.frozen? ⟨g, 3, none⟩ = false := ⟨(blk_cell h 0).trans rfl, (blk_cell h 1).trans rfl, (blk_cell h 2).trans rfl, (blk_cell h 3).trans rfl, blk_frozen h 0, blk_frozen h 1, blk_frozen h 2, blk_frozen h 3⟩
theorem bcl5 {w : World} {g : Nat} {t : TypeId} {x0 x1 x2 x3 x4 : Value} (h : w.heap[g]? = some (.cells #[x0, x1, x2, x3, x4] t (0, 0))) : w.cell? ⟨g, 0, none⟩ = some x0 ∧ w.cell? ⟨g, 1, none⟩ = some x1 ∧ w.cell? ⟨g, 2, none⟩ = some x2 ∧ w.cell? ⟨g, 3, none⟩ = some x3 ∧ w.cell? ⟨g, 4, none⟩ = some x4 ∧ w.frozen? ⟨g, 0, none⟩ = false ∧ w.frozen? ⟨g, 1, none⟩ = false ∧ w.frozen? ⟨g, 2, none⟩ = false ∧ w.frozen? ⟨g, 3, none⟩ = false ∧ w.frozen? ⟨g, 4, none⟩ = false := ⟨(blk_cell h 0).trans rfl, (blk_cell h 1).trans rfl, (blk_cell h 2).trans rfl, (blk_cell h 3).trans rfl, (blk_cell h 4).trans rfl, blk_frozen h 0, blk_frozen h 1, blk_frozen h 2, blk_frozen h 3, blk_frozen h 4⟩
theorem bcl6 {w : World} {g : Nat} {t : TypeId} {x0 x1 x2 x3 x4 x5 : Value} (h : w.heap[g]? = some (.cells #[x0, x1, x2, x3, x4, x5] t (0, 0))) : w.cell? ⟨g, 0, none⟩ = some x0 ∧ w.cell? ⟨g, 1, none⟩ = some x1 ∧ w.cell? ⟨g, 2, none⟩ = some x2 ∧ w.cell? ⟨g, 3, none⟩ = some x3 ∧ w.cell? ⟨g, 4, none⟩ = some x4 ∧ w.cell? ⟨g, 5, none⟩ = some x5 ∧ w.frozen? ⟨g, 0, none⟩ = false ∧ w.frozen? ⟨g, 1, none⟩ = false ∧ w.frozen? ⟨g, 2, none⟩ = false ∧ w.frozen? ⟨g, 3, none⟩ = false ∧ w.frozen? ⟨g, 4, none⟩ = false ∧ w.frozen? ⟨g, 5, none⟩ = false := ⟨(blk_cell h 0).trans rfl, (blk_cell h 1).trans rfl, (blk_cell h 2).trans rfl, (blk_cell h 3).trans rfl, (blk_cell h 4).trans rfl, (blk_cell h 5).trans rfl, blk_frozen h 0, blk_frozen h 1, blk_frozen h 2, blk_frozen h 3, blk_frozen h 4, blk_frozen h 5⟩
theorem bcl7 {w : World} {g : Nat} {t : TypeId} {x0 x1 x2 x3 x4 x5 x6 : Value} (h : w.heap[g]? = some (.cells #[x0, x1, x2, x3, x4, x5, x6] t (0, 0))) : w.cell? ⟨g, 0, none⟩ = some x0 ∧ w.cell? ⟨g, 1, none⟩ = some x1 ∧ w.cell? ⟨g, 2, none⟩ = some x2 ∧ w.cell? ⟨g, 3, none⟩ = some x3 ∧ w.cell? ⟨g, 4, none⟩ = some x4 ∧ w.cell? ⟨g, 5, none⟩ = some x5 ∧ w.cell? ⟨g, 6, none⟩ = some x6 ∧ w.frozen? ⟨g, 0, none⟩ = false ∧ w.frozen? ⟨g, 1, none⟩ = false ∧ w.frozen? ⟨g, 2, none⟩ = false ∧ w.frozen? ⟨g, 3, none⟩ = false ∧ w.frozen? ⟨g, 4, none⟩ = false ∧ w.frozen? ⟨g, 5, none⟩ = false ∧ w.frozen? ⟨g, 6, none⟩ = false := ⟨(blk_cell h 0).trans rfl, (blk_cell h 1).trans rfl, (blk_cell h 2).trans rfl, (blk_cell h 3).trans rfl, (blk_cell h 4).trans rfl, (blk_cell h 5).trans rfl, (blk_cell h 6).trans rfl, blk_frozen h 0, blk_frozen h 1, blk_frozen h 2, blk_frozen h 3, blk_frozen h 4, blk_frozen h 5, blk_frozen h 6⟩
theorem bcl8 {w : World} {g : Nat} {t : TypeId} {x0 x1 x2 x3 x4 x5 x6 x7 : Value} (h : w.heap[g]? = some (.cells #[x0, x1, x2, x3, x4, x5, x6, x7] t (0, 0))) : w.cell? ⟨g, 0, none⟩ = some x0 ∧ w.cell? ⟨g, 1, none⟩ = some x1 ∧ w.cell? ⟨g, 2, none⟩ = some x2 ∧ w.cell? ⟨g, 3, none⟩ = some x3 ∧ w.cell? ⟨g, 4, none⟩ = some x4 ∧ w.cell? ⟨g, 5, none⟩ = some x5 ∧ w.cell? ⟨g, 6, none⟩ = some x6 ∧ w.cell? ⟨g, 7, none⟩ = some x7 ∧ w.frozen? ⟨g, 0, none⟩ = false ∧ w.frozen? ⟨g, 1, none⟩ = false ∧ w.frozen? ⟨g, 2, none⟩ = false ∧ w.frozen? ⟨g, 3, none⟩ = false ∧ w.frozen? ⟨g, 4, none⟩ = false ∧ w.frozen? ⟨g, 5, none⟩ = false ∧ w.frozen? ⟨g, 6, none⟩ = false ∧ w.frozen? ⟨g, 7, none⟩ = false := ⟨(blk_cell h 0).trans rfl, (blk_cell h 1).trans rfl, (blk_cell h 2).trans rfl, (blk_cell h 3).trans rfl, (blk_cell h 4).trans rfl, (blk_cell h 5).trans rfl, (blk_cell h 6).trans rfl, (blk_cell h 7).trans rfl, blk_frozen h 0, blk_frozen h 1, blk_frozen h 2, blk_frozen h 3, blk_frozen h 4, blk_frozen h 5, blk_frozen h 6, blk_frozen h 7⟩
theorem bcl9 {w : World} {g : Nat} {t : TypeId} {x0 x1 x2 x3 x4 x5 x6 x7 x8 : Value} (h : w.heap[g]? = some (.cells #[x0, x1, x2, x3, x4, x5, x6, x7, x8] t (0, 0))) : w.cell? ⟨g, 0, none⟩ = some x0 ∧ w.cell? ⟨g, 1, none⟩ = some x1 ∧ w.cell? ⟨g, 2, none⟩ = some x2 ∧ w.cell? ⟨g, 3, none⟩ = some x3 ∧ w.cell? ⟨g, 4, none⟩ = some x4 ∧ w.cell? ⟨g, 5, none⟩ = some x5 ∧ w.cell? ⟨g, 6, none⟩ = some x6 ∧ w.cell? ⟨g, 7, none⟩ = some x7 ∧ w.cell? ⟨g, 8, none⟩ = some x8 ∧ w.frozen? ⟨g, 0, none⟩ = false ∧ w.frozen? ⟨g, 1, none⟩ = false ∧ w.frozen? ⟨g, 2, none⟩ = false ∧ w.frozen? ⟨g, 3, none⟩ = false ∧ w.frozen? ⟨g, 4, none⟩ = false ∧ w.frozen? ⟨g, 5, none⟩ = false ∧ w.frozen? ⟨g, 6, none⟩ = false ∧ w.frozen? ⟨g, 7, none⟩ = false ∧ w.frozen? ⟨g, 8, none⟩ = false := ⟨(blk_cell h 0).trans rfl, (blk_cell h 1).trans rfl, (blk_cell h 2).trans rfl, (blk_cell h 3).trans rfl, (blk_cell h 4).trans rfl, (blk_cell h 5).trans rfl, (blk_cell h 6).trans rfl, (blk_cell h 7).trans rfl, (blk_cell h 8).trans rfl, blk_frozen h 0, blk_frozen h 1, blk_frozen h 2, blk_frozen h 3, blk_frozen h 4, blk_frozen h 5, blk_frozen h 6, blk_frozen h 7, blk_frozen h 8⟩
theorem bcl10 {w : World} {g : Nat} {t : TypeId} {x0 x1 x2 x3 x4 x5 x6 x7 x8 x9 : Value} (h : w.heap[g]? = some (.cells #[x0, x1, x2, x3, x4, x5, x6, x7, x8, x9] t (0, 0))) : w.cell? ⟨g, 0, none⟩ = some x0 ∧ w.cell? ⟨g, 1, none⟩ = some x1 ∧ w.cell? ⟨g, 2, none⟩ = some x2 ∧ w.cell? ⟨g, 3, none⟩ = some x3 ∧ w.cell? ⟨g, 4, none⟩ = some x4 ∧ w.cell? ⟨g, 5, none⟩ = some x5 ∧ w.cell? ⟨g, 6, none⟩ = some x6 ∧ w.cell? ⟨g, 7, none⟩ = some x7 ∧ w.cell? ⟨g, 8, none⟩ = some x8 ∧ w.cell? ⟨g, 9, none⟩ = some x9 ∧ w.frozen? ⟨g, 0, none⟩ = false ∧ w.frozen? ⟨g, 1, none⟩ = false ∧ w.frozen? ⟨g, 2, none⟩ = false ∧ w.frozen? ⟨g, 3, none⟩ = false ∧ w.frozen? ⟨g, 4, none⟩ = false ∧ w.frozen? ⟨g, 5, none⟩ = false ∧ w.frozen? ⟨g, 6, none⟩ = false ∧ w.frozen? ⟨g, 7, none⟩ = false ∧ w.frozen? ⟨g, 8, none⟩ = false ∧ w.frozen? ⟨g, 9, none⟩ = false := ⟨(blk_cell h 0).trans rfl, (blk_cell h 1).trans rfl, (blk_cell h 2).trans rfl, (blk_cell h 3).trans rfl, (blk_cell h 4).trans rfl, (blk_cell h 5).trans rfl, (blk_cell h 6).trans rfl, (blk_cell h 7).trans rfl, (blk_cell h 8).trans rfl, (blk_cell h 9).trans rfl, blk_frozen h 0, blk_frozen h 1, blk_frozen h 2, blk_frozen h 3, blk_frozen h 4, blk_frozen h 5, blk_frozen h 6, blk_frozen h 7, blk_frozen h 8, blk_frozen h 9⟩
theorem bcl11 {w : World} {g : Nat} {t : TypeId} {x0 x1 x2 x3 x4 x5 x6 x7 x8 x9 x10 : Value} (h : w.heap[g]? = some (.cells #[x0, x1, x2, x3, x4, x5, x6, x7, x8, x9, x10] t (0, 0))) : w.cell? ⟨g, 0, none⟩ = some x0 ∧ w.cell? ⟨g, 1, none⟩ = some x1 ∧ w.cell? ⟨g, 2, none⟩ = some x2 ∧ w.cell? ⟨g, 3, none⟩ = some x3 ∧ w.cell? ⟨g, 4, none⟩ = some x4 ∧ w.cell? ⟨g, 5, none⟩ = some x5 ∧ w.cell? ⟨g, 6, none⟩ = some x6 ∧ w.cell? ⟨g, 7, none⟩ = some x7 ∧ w.cell? ⟨g, 8, none⟩ = some x8 ∧ w.cell? ⟨g, 9, none⟩ = some x9 ∧ w.cell? ⟨g, 10, none⟩ = some x10 ∧ w.frozen? ⟨g, 0, none⟩ = false ∧ w.frozen? ⟨g, 1, none⟩ = false ∧ w.frozen? ⟨g, 2, none⟩ = false ∧ w.frozen? ⟨g, 3, none⟩ = false ∧ w.frozen? ⟨g, 4, none⟩ = false ∧ w.frozen? ⟨g, 5, none⟩ = false ∧ w.frozen? ⟨g, 6, none⟩ = false ∧ w.frozen? ⟨g, 7, none⟩ = false ∧ w.frozen? ⟨g, 8, none⟩ = false ∧ w.frozen? ⟨g, 9, none⟩ = false ∧ w.frozen? ⟨g, 10, none⟩ = false := ⟨(blk_cell h 0).trans rfl, (blk_cell h 1).trans rfl, (blk_cell h 2).trans rfl, (blk_cell h 3).trans rfl, (blk_cell h 4).trans rfl, (blk_cell h 5).trans rfl, (blk_cell h 6).trans rfl, (blk_cell h 7).trans rfl, (blk_cell h 8).trans rfl, (blk_cell h 9).trans rfl, (blk_cell h 10).trans rfl, blk_frozen h 0, blk_frozen h 1, blk_frozen h 2, blk_frozen h 3, blk_frozen h 4, blk_frozen h 5, blk_frozen h 6, blk_frozen h 7, blk_frozen h 8, blk_frozen h 9, blk_frozen h 10⟩
theorem bcl12 {w : World} {g : Nat} {t : TypeId} {x0 x1 x2 x3 x4 x5 x6 x7 x8 x9 x10 x11 : Value} (h : w.heap[g]? = some (.cells #[x0, x1, x2, x3, x4, x5, x6, x7, x8, x9, x10, x11] t (0, 0))) : w.cell? ⟨g, 0, none⟩ = some x0 ∧ w.cell? ⟨g, 1, none⟩ = some x1 ∧ w.cell? ⟨g, 2, none⟩ = some x2 ∧ w.cell? ⟨g, 3, none⟩ = some x3 ∧ w.cell? ⟨g, 4, none⟩ = some x4 ∧ w.cell? ⟨g, 5, none⟩ = some x5 ∧ w.cell? ⟨g, 6, none⟩ = some x6 ∧ w.cell? ⟨g, 7, none⟩ = some x7 ∧ w.cell? ⟨g, 8, none⟩ = some x8 ∧ w.cell? ⟨g, 9, none⟩ = some x9 ∧ w.cell? ⟨g, 10, none⟩ = some x10 ∧ w.cell? ⟨g, 11, none⟩ = some x11 ∧ w.frozen? ⟨g, 0, none⟩ = false ∧ w.frozen? ⟨g, 1, none⟩ = false ∧ w.frozen? ⟨g, 2, none⟩ = false ∧ w.frozen? ⟨g, 3, none⟩ = false ∧ w.frozen? ⟨g, 4, none⟩ = false ∧ w.frozen? ⟨g, 5, none⟩ = false ∧ w.frozen? ⟨g, 6, none⟩ = false ∧ w.frozen? ⟨g, 7, none⟩ = false ∧ w.frozen? ⟨g, 8, none⟩ = false ∧ w.frozen? ⟨g, 9, none⟩ = false ∧ w.frozen? ⟨g, 10, none⟩ = false ∧ w.frozen? ⟨g, 11, none⟩ = false := ⟨(blk_cell h 0).trans rfl, (blk_cell h 1).trans rfl, (blk_cell h 2).trans rfl, (blk_cell h 3).trans rfl, (blk_cell h 4).trans rfl, (blk_cell h 5).trans rfl, (blk_cell h 6).trans rfl, (blk_cell h 7).trans rfl, (blk_cell h 8).trans rfl, (blk_cell h 9).trans rfl, (blk_cell h 10).trans rfl, (blk_cell h 11).trans rfl, blk_frozen h 0, blk_frozen h 1, blk_frozen h 2, blk_frozen h 3, blk_frozen h 4, blk_frozen h 5, blk_frozen h 6, blk_frozen h 7, blk_frozen h 8, blk_frozen h 9, blk_frozen h 10, blk_frozen h 11⟩
theorem pV {P : Program} {ops : Array Oper} {Q : Exit → Act → World → Prop} {md : Region.Mode} {S : World → Prop} {ds : List Nat} {i : Nat} {N : Option Tmp} {oi : Oper} {v : Value} {fuel : Nat} {l : Array Bool} {a : Act} {w : World} {a' : Act} (l' : Array Bool) (hi : ops[i]? = some oi) (hN : oi.dst = N) (hc : anyB md ops l l' i = true) (h : wpAnyLast P md ops Q S ds fuel l' a' w) (hQ : ∀ c a w, Q (.panic c) (a.put oi.dst v) w → Q (.panic c) a w := by exact fun _ _ _ h => h) (hw : Region.wanted oi (yielded ops a.tmps) = true := by rfl) (hv : ∀ w', (execOp a.eval oi).run P w' = .ok (.value v) w' := by intro w'; go_simp; (with_reducible rfl)) (ha : a.put N v = a' := by simp only [Act.put, sA, s0, s1, i64_w, i32_w]; rfl) : wpAnyLast P md ops Q S ds (fuel + 1) l a w := pure_ l' hi hN hc hQ (Or.inl ⟨hw, hv⟩) ha h
theorem pW {P : Program} {ops : Array Oper} {Q : Exit → Act → World → Prop} {md : Region.Mode} {S : World → Prop} {ds : List Nat} {i : Nat} {N : Option Tmp} {oi : Oper} {fuel : Nat} {l : Array Bool} {a : Act} {w : World} {a' : Act} (l' : Array Bool) (hi : ops[i]? = some oi) (hN : oi.dst = N) (hc : anyB md ops l l' i = true) (h : wpAnyLast P md ops Q S ds fuel l' a' w) (hQ : ∀ c a w, Q (.panic c) (a.put oi.dst undef) w → Q (.panic c) a w := by exact fun _ _ _ h => h) (hw : Region.wanted oi (yielded ops a.tmps) = false := by rfl) (ha : a.put N undef = a' := by simp only [Act.put, sA, s0, s1, i64_w, i32_w]; rfl) : wpAnyLast P md ops Q S ds (fuel + 1) l a w := pure_ l' hi hN hc hQ (Or.inr ⟨hw, rfl⟩) ha h
theorem tV1 {P : Program} {ops : Array Oper} {Q : Exit → Act → World → Prop} {md : Region.Mode} {S : World → Prop} {ds : List Nat} {i : Nat} {N : Option Tmp} {oi : Oper} {v : Value} {fuel : Nat} {l : Array Bool} {a : Act} {w : World} {a' : Act} (l' : Array Bool) (hi : ops[i]? = some oi) (hN : oi.dst = N) (hc : takeB md ops ds l l' i = true) (hS : S w) (h : wpAnyLast P md ops Q S ds fuel l' a' w) (hQ : ∀ c a w, Q (.panic c) (a.put oi.dst v) w → Q (.panic c) a w := by exact fun _ _ _ h => h) (hw : Region.wanted oi (yielded ops a.tmps) = true := by rfl) (hv : ∀ w', S w' → (execOp a.eval oi).run P w' = .ok (.value v) w' := by rintro w' ⟨s0⟩; go_simp; with_reducible rfl) (ha : a.put N v = a' := by simp only [Act.put, sA, s0, s1, i64_w, i32_w]; rfl) : wpAnyLast P md ops Q S ds (fuel + 1) l a w := take_ l' hi hN hc hQ (Or.inl ⟨hw, hv⟩) hS ha h
theorem tV2 {P : Program} {ops : Array Oper} {Q : Exit → Act → World → Prop} {md : Region.Mode} {S : World → Prop} {ds : List Nat} {i : Nat} {N : Option Tmp} {oi : Oper} {v : Value} {fuel : Nat} {l : Array Bool} {a : Act} {w : World} {a' : Act} (l' : Array Bool) (hi : ops[i]? = some oi) (hN : oi.dst = N) (hc : takeB md ops ds l l' i = true) (hS : S w) (h : wpAnyLast P md ops Q S ds fuel l' a' w) (hQ : ∀ c a w, Q (.panic c) (a.put oi.dst v) w → Q (.panic c) a w := by exact fun _ _ _ h => h) (hw : Region.wanted oi (yielded ops a.tmps) = true := by rfl) (hv : ∀ w', S w' → (execOp a.eval oi).run P w' = .ok (.value v) w' := by rintro w' ⟨s0, s1⟩; go_simp; with_reducible rfl) (ha : a.put N v = a' := by simp only [Act.put, sA, s0, s1, i64_w, i32_w]; rfl) : wpAnyLast P md ops Q S ds (fuel + 1) l a w := take_ l' hi hN hc hQ (Or.inl ⟨hw, hv⟩) hS ha h
theorem tV3 {P : Program} {ops : Array Oper} {Q : Exit → Act → World → Prop} {md : Region.Mode} {S : World → Prop} {ds : List Nat} {i : Nat} {N : Option Tmp} {oi : Oper} {v : Value} {fuel : Nat} {l : Array Bool} {a : Act} {w : World} {a' : Act} (l' : Array Bool) (hi : ops[i]? = some oi) (hN : oi.dst = N) (hc : takeB md ops ds l l' i = true) (hS : S w) (h : wpAnyLast P md ops Q S ds fuel l' a' w) (hQ : ∀ c a w, Q (.panic c) (a.put oi.dst v) w → Q (.panic c) a w := by exact fun _ _ _ h => h) (hw : Region.wanted oi (yielded ops a.tmps) = true := by rfl) (hv : ∀ w', S w' → (execOp a.eval oi).run P w' = .ok (.value v) w' := by rintro w' ⟨s0, s1, s2⟩; go_simp; with_reducible rfl) (ha : a.put N v = a' := by simp only [Act.put, sA, s0, s1, i64_w, i32_w]; rfl) : wpAnyLast P md ops Q S ds (fuel + 1) l a w := take_ l' hi hN hc hQ (Or.inl ⟨hw, hv⟩) hS ha h
theorem tV4 {P : Program} {ops : Array Oper} {Q : Exit → Act → World → Prop} {md : Region.Mode} {S : World → Prop} {ds : List Nat} {i : Nat} {N : Option Tmp} {oi : Oper} {v : Value} {fuel : Nat} {l : Array Bool} {a : Act} {w : World} {a' : Act} (l' : Array Bool) (hi : ops[i]? = some oi) (hN : oi.dst = N) (hc : takeB md ops ds l l' i = true) (hS : S w) (h : wpAnyLast P md ops Q S ds fuel l' a' w) (hQ : ∀ c a w, Q (.panic c) (a.put oi.dst v) w → Q (.panic c) a w := by exact fun _ _ _ h => h) (hw : Region.wanted oi (yielded ops a.tmps) = true := by rfl) (hv : ∀ w', S w' → (execOp a.eval oi).run P w' = .ok (.value v) w' := by rintro w' ⟨s0, s1, s2, s3⟩; go_simp; with_reducible rfl) (ha : a.put N v = a' := by simp only [Act.put, sA, s0, s1, i64_w, i32_w]; rfl) : wpAnyLast P md ops Q S ds (fuel + 1) l a w := take_ l' hi hN hc hQ (Or.inl ⟨hw, hv⟩) hS ha h
theorem tV5 {P : Program} {ops : Array Oper} {Q : Exit → Act → World → Prop} {md : Region.Mode} {S : World → Prop} {ds : List Nat} {i : Nat} {N : Option Tmp} {oi : Oper} {v : Value} {fuel : Nat} {l : Array Bool} {a : Act} {w : World} {a' : Act} (l' : Array Bool) (hi : ops[i]? = some oi) (hN : oi.dst = N) (hc : takeB md ops ds l l' i = true) (hS : S w) (h : wpAnyLast P md ops Q S ds fuel l' a' w) (hQ : ∀ c a w, Q (.panic c) (a.put oi.dst v) w → Q (.panic c) a w := by exact fun _ _ _ h => h) (hw : Region.wanted oi (yielded ops a.tmps) = true := by rfl) (hv : ∀ w', S w' → (execOp a.eval oi).run P w' = .ok (.value v) w' := by rintro w' ⟨s0, s1, s2, s3, s4⟩; go_simp; with_reducible rfl) (ha : a.put N v = a' := by simp only [Act.put, sA, s0, s1, i64_w, i32_w]; rfl) : wpAnyLast P md ops Q S ds (fuel + 1) l a w := take_ l' hi hN hc hQ (Or.inl ⟨hw, hv⟩) hS ha h
theorem tV6 {P : Program} {ops : Array Oper} {Q : Exit → Act → World → Prop} {md : Region.Mode} {S : World → Prop} {ds : List Nat} {i : Nat} {N : Option Tmp} {oi : Oper} {v : Value} {fuel : Nat} {l : Array Bool} {a : Act} {w : World} {a' : Act} (l' : Array Bool) (hi : ops[i]? = some oi) (hN : oi.dst = N) (hc : takeB md ops ds l l' i = true) (hS : S w) (h : wpAnyLast P md ops Q S ds fuel l' a' w) (hQ : ∀ c a w, Q (.panic c) (a.put oi.dst v) w → Q (.panic c) a w := by exact fun _ _ _ h => h) (hw : Region.wanted oi (yielded ops a.tmps) = true := by rfl) (hv : ∀ w', S w' → (execOp a.eval oi).run P w' = .ok (.value v) w' := by rintro w' ⟨s0, s1, s2, s3, s4, s5⟩; go_simp; with_reducible rfl) (ha : a.put N v = a' := by simp only [Act.put, sA, s0, s1, i64_w, i32_w]; rfl) : wpAnyLast P md ops Q S ds (fuel + 1) l a w := take_ l' hi hN hc hQ (Or.inl ⟨hw, hv⟩) hS ha h
theorem tV7 {P : Program} {ops : Array Oper} {Q : Exit → Act → World → Prop} {md : Region.Mode} {S : World → Prop} {ds : List Nat} {i : Nat} {N : Option Tmp} {oi : Oper} {v : Value} {fuel : Nat} {l : Array Bool} {a : Act} {w : World} {a' : Act} (l' : Array Bool) (hi : ops[i]? = some oi) (hN : oi.dst = N) (hc : takeB md ops ds l l' i = true) (hS : S w) (h : wpAnyLast P md ops Q S ds fuel l' a' w) (hQ : ∀ c a w, Q (.panic c) (a.put oi.dst v) w → Q (.panic c) a w := by exact fun _ _ _ h => h) (hw : Region.wanted oi (yielded ops a.tmps) = true := by rfl) (hv : ∀ w', S w' → (execOp a.eval oi).run P w' = .ok (.value v) w' := by rintro w' ⟨s0, s1, s2, s3, s4, s5, s6⟩; go_simp; with_reducible rfl) (ha : a.put N v = a' := by simp only [Act.put, sA, s0, s1, i64_w, i32_w]; rfl) : wpAnyLast P md ops Q S ds (fuel + 1) l a w := take_ l' hi hN hc hQ (Or.inl ⟨hw, hv⟩) hS ha h
theorem tV8 {P : Program} {ops : Array Oper} {Q : Exit → Act → World → Prop} {md : Region.Mode} {S : World → Prop} {ds : List Nat} {i : Nat} {N : Option Tmp} {oi : Oper} {v : Value} {fuel : Nat} {l : Array Bool} {a : Act} {w : World} {a' : Act} (l' : Array Bool) (hi : ops[i]? = some oi) (hN : oi.dst = N) (hc : takeB md ops ds l l' i = true) (hS : S w) (h : wpAnyLast P md ops Q S ds fuel l' a' w) (hQ : ∀ c a w, Q (.panic c) (a.put oi.dst v) w → Q (.panic c) a w := by exact fun _ _ _ h => h) (hw : Region.wanted oi (yielded ops a.tmps) = true := by rfl) (hv : ∀ w', S w' → (execOp a.eval oi).run P w' = .ok (.value v) w' := by rintro w' ⟨s0, s1, s2, s3, s4, s5, s6, s7⟩; go_simp; with_reducible rfl) (ha : a.put N v = a' := by simp only [Act.put, sA, s0, s1, i64_w, i32_w]; rfl) : wpAnyLast P md ops Q S ds (fuel + 1) l a w := take_ l' hi hN hc hQ (Or.inl ⟨hw, hv⟩) hS ha h
theorem qT {P : Prop} (h : P := by exact any_of HT_.out (by kernel_rfl)) : P := h
abbrev Y : Bool := true
abbrev Z : Bool := false
def errW : Option Int → Value
 | none => .nilIface
 | some c => .iface 0 (.int .i64 c)
theorem errW_none : errW none = .nilIface := rfl
theorem errW_some (c : Int) : errW (some c) = .iface 0 (.int .i64 c) := rfl

theorem info3 : (Try.prog.info? 3).map (fun i => (i.zero, i.size, i.bytes)) = some (some (.int .i64 0), 1, 8) := by kernel_rfl
theorem info45 : (Try.prog.info? 45).map (fun i => (i.zero, i.size, i.bytes)) = some (some (.agg #[(.int .i64 0), (.int .i64 0), (.slice none 0 0)]), 3, 40) := by kernel_rfl
theorem info49 : (Try.prog.info? 49).map (fun i => (i.zero, i.size, i.bytes)) = some (some (.agg #[(.int .i64 0), (.int .i64 0), (.int .i64 0), (.bool false)]), 4, 32) := by kernel_rfl
-- the values' own types
def rd_L1 (xs : List (List Int)) (i : Int) : (List Int) := xs.getD i.toNat ([] : List Int)
theorem at_L1 {w : World} {A : Option Addr} {n : Nat} {xs : List (List Int)} (h : Kd.C (Kd.slice 3 (Kd.int .i64)) w A n xs) (i : Int) (h0 : 0 ≤ i) (h1 : i < n) : ∃ ad A0 c0, A = some ad ∧ w.cell? (ad.add i.toNat) = some (.slice A0 (rd_L1 xs i).length c0) ∧ (rd_L1 xs i).length ≤ c0 ∧ (Kd.int .i64).C w A0 (rd_L1 xs i).length (rd_L1 xs i) := by
 obtain ⟨ad,c,e,_,hK,hc0⟩:=Kd.C_get h ([] : List Int) i h0 h1
 have hc : ∀ j u,c[j]? = some u → w.cell? (ad.add (i.toNat * 1 + j)) = some u:=hc0
 obtain ⟨A0,c0,rfl,l0,g0⟩:=hK
 exact ⟨ad,A0,c0,e,by have hq:=hc 0 _ rfl;rwa [Nat.mul_one,Nat.add_zero] at hq,l0,g0⟩

/-! #### struct type 45 -/
structure S45 where
 f0 : Int
 f1 : Int
 f2 : (List Int)
def z45 : S45 := ⟨(0 : Int), (0 : Int), ([] : List Int)⟩
def k45 : Kd S45 := Kd.iso (Kd.pair (Kd.int .i64) (Kd.pair (Kd.int .i64) (Kd.slice 3 (Kd.int .i64)))) (fun x : S45 => (x.f0, x.f1, x.f2))
theorem k45_open {w : World} {x : S45} {cs : List Value} (h : k45.K w x cs) : ∃ A2 c2, cs = [.int .i64 x.f0, .int .i64 x.f1, .slice A2 x.f2.length c2] ∧ x.f2.length ≤ c2 ∧ (Kd.int .i64).C w A2 x.f2.length x.f2 := by
 obtain ⟨_,_,rfl,rfl,⟨_,_,rfl,rfl,⟨A2,c2,rfl,l2,g2⟩⟩⟩:=h
 exact ⟨A2,c2,rfl,l2,g2⟩
theorem k45_openM {w : World} {base : Nat} {ok : Nat → Prop} {x : S45} {cs : List Value} (h : k45.M w base ok x cs) : ∃ v2, cs = [.int .i64 x.f0, .int .i64 x.f1, v2] ∧ (Kd.int .i64).R 3 w base ok v2 x.f2 := by
 obtain ⟨_,_,rfl,rfl,⟨_,_,rfl,rfl,⟨v2,rfl,g2⟩⟩⟩:=h
 exact ⟨v2,rfl,g2⟩
theorem k45_mk (w : World) (x : S45) {A2 : Option Addr} {c2 : Nat} (l2 : x.f2.length ≤ c2) (g2 : (Kd.int .i64).C w A2 x.f2.length x.f2) : k45.K w x [.int .i64 x.f0, .int .i64 x.f1, .slice A2 x.f2.length c2] := ⟨[.int .i64 x.f0], [.int .i64 x.f1, .slice A2 x.f2.length c2], rfl, rfl, ⟨[.int .i64 x.f1], [.slice A2 x.f2.length c2], rfl, rfl, ⟨A2, c2, rfl, l2, g2⟩⟩⟩
theorem k45_mkM (w : World) (base : Nat) (ok : Nat → Prop) (x : S45) {v2 : Value} (g2 : (Kd.int .i64).R 3 w base ok v2 x.f2) : k45.M w base ok x [.int .i64 x.f0, .int .i64 x.f1, v2] := ⟨[.int .i64 x.f0], [.int .i64 x.f1, v2], rfl, rfl, ⟨[.int .i64 x.f1], [v2], rfl, rfl, ⟨v2, rfl, g2⟩⟩⟩
def rd_T45 (xs : List S45) (i : Int) : S45 := xs.getD i.toNat z45
theorem at_T45 {w : World} {A : Option Addr} {n : Nat} {xs : List S45} (h : Kd.C k45 w A n xs) (i : Int) (h0 : 0 ≤ i) (h1 : i < n) : ∃ ad A2 c2, A = some ad ∧ w.cell? (ad.add (i.toNat * 3)) = some (.int .i64 (rd_T45 xs i).f0) ∧ w.cell? ⟨(ad.add (i.toNat * 3)).block, (ad.add (i.toNat * 3)).off + 1, none⟩ = some (.int .i64 (rd_T45 xs i).f1) ∧ w.cell? ⟨(ad.add (i.toNat * 3)).block, (ad.add (i.toNat * 3)).off + 2, none⟩ = some (.slice A2 (rd_T45 xs i).f2.length c2) ∧ (rd_T45 xs i).f2.length ≤ c2 ∧ (Kd.int .i64).C w A2 (rd_T45 xs i).f2.length (rd_T45 xs i).f2 := by
 obtain ⟨ad,c,e,_,hK,hc0⟩:=Kd.C_get h z45 i h0 h1
 have hc : ∀ j u,c[j]? = some u → w.cell? (ad.add (i.toNat * 3 + j)) = some u:=hc0
 obtain ⟨A2,c2,rfl,l2,g2⟩:=k45_open hK
 exact ⟨ad,A2,c2,e,hc 0 _ rfl,by rw [← add_field _ _ 1 (by omega)];exact hc 1 _ rfl,by rw [← add_field _ _ 2 (by omega)];exact hc 2 _ rfl,l2,g2⟩

/-! #### struct type 49 -/
structure S49 where
 f0 : Int
 f1 : Int
 f2 : Int
 f3 : Bool
def z49 : S49 := ⟨(0 : Int), (0 : Int), (0 : Int), false⟩
def k49 : Kd S49 := Kd.iso (Kd.pair (Kd.int .i64) (Kd.pair (Kd.int .i64) (Kd.pair (Kd.int .i64) Kd.bool))) (fun x : S49 => (x.f0, x.f1, x.f2, x.f3))
theorem k49_open {w : World} {x : S49} {cs : List Value} (h : k49.K w x cs) : cs = [.int .i64 x.f0, .int .i64 x.f1, .int .i64 x.f2, .bool x.f3] := by
 obtain ⟨_,_,rfl,rfl,⟨_,_,rfl,rfl,⟨_,_,rfl,rfl,rfl⟩⟩⟩:=h
 exact rfl
theorem k49_openM {w : World} {base : Nat} {ok : Nat → Prop} {x : S49} {cs : List Value} (h : k49.M w base ok x cs) : cs = [.int .i64 x.f0, .int .i64 x.f1, .int .i64 x.f2, .bool x.f3] := by
 obtain ⟨_,_,rfl,rfl,⟨_,_,rfl,rfl,⟨_,_,rfl,rfl,rfl⟩⟩⟩:=h
 exact rfl
theorem k49_mk (w : World) (x : S49)  : k49.K w x [.int .i64 x.f0, .int .i64 x.f1, .int .i64 x.f2, .bool x.f3] := ⟨[.int .i64 x.f0], [.int .i64 x.f1, .int .i64 x.f2, .bool x.f3], rfl, rfl, ⟨[.int .i64 x.f1], [.int .i64 x.f2, .bool x.f3], rfl, rfl, ⟨[.int .i64 x.f2], [.bool x.f3], rfl, rfl, rfl⟩⟩⟩
theorem k49_mkM (w : World) (base : Nat) (ok : Nat → Prop) (x : S49)  : k49.M w base ok x [.int .i64 x.f0, .int .i64 x.f1, .int .i64 x.f2, .bool x.f3] := ⟨[.int .i64 x.f0], [.int .i64 x.f1, .int .i64 x.f2, .bool x.f3], rfl, rfl, ⟨[.int .i64 x.f1], [.int .i64 x.f2, .bool x.f3], rfl, rfl, ⟨[.int .i64 x.f2], [.bool x.f3], rfl, rfl, rfl⟩⟩⟩
def rd_T49 (xs : List S49) (i : Int) : S49 := xs.getD i.toNat z49
theorem at_T49 {w : World} {A : Option Addr} {n : Nat} {xs : List S49} (h : Kd.C k49 w A n xs) (i : Int) (h0 : 0 ≤ i) (h1 : i < n) : ∃ ad , A = some ad ∧ w.cell? (ad.add (i.toNat * 4)) = some (.int .i64 (rd_T49 xs i).f0) ∧ w.cell? ⟨(ad.add (i.toNat * 4)).block, (ad.add (i.toNat * 4)).off + 1, none⟩ = some (.int .i64 (rd_T49 xs i).f1) ∧ w.cell? ⟨(ad.add (i.toNat * 4)).block, (ad.add (i.toNat * 4)).off + 2, none⟩ = some (.int .i64 (rd_T49 xs i).f2) ∧ w.cell? ⟨(ad.add (i.toNat * 4)).block, (ad.add (i.toNat * 4)).off + 3, none⟩ = some (.bool (rd_T49 xs i).f3) := by
 obtain ⟨ad,c,e,_,hK,hc0⟩:=Kd.C_get h z49 i h0 h1
 have hc : ∀ j u,c[j]? = some u → w.cell? (ad.add (i.toNat * 4 + j)) = some u:=hc0
 obtain rfl:=k49_open hK
 exact ⟨ad,e,hc 0 _ rfl,by rw [← add_field _ _ 1 (by omega)];exact hc 1 _ rfl,by rw [← add_field _ _ 2 (by omega)];exact hc 2 _ rfl,by rw [← add_field _ _ 3 (by omega)];exact hc 3 _ rfl⟩

section
variable {P : Prop}
theorem qq1 (h : P := by (with_reducible repeat (first | refine dN ?_ _ | refine dD ?_ | refine dA ?_ _));refine blk_put (cs:=#[.int .i64 ((rd_T49 l0 x7_1).f0),.int .i64 ((rd_T49 l0 x7_1).f1),.int .i64 ((rd_T49 l0 x7_1).f2),.bool false]) ?_ 3 _ rfl;(with_reducible repeat (first | refine dN ?_ _ | refine dD ?_ | refine dA ?_ _));refine blk_put (cs:=#[.int .i64 ((rd_T49 l0 x7_1).f0),.int .i64 ((rd_T49 l0 x7_1).f1),.int .i64 0,.bool false]) ?_ 2 _ rfl;(with_reducible repeat (first | refine dN ?_ _ | refine dD ?_ | refine dA ?_ _));refine blk_put (cs:=#[.int .i64 ((rd_T49 l0 x7_1).f0),.int .i64 0,.int .i64 0,.bool false]) ?_ 1 _ rfl;(with_reducible repeat (first | refine dN ?_ _ | refine dD ?_ | refine dA ?_ _));refine blk_put (cs:=#[.int .i64 0,.int .i64 0,.int .i64 0,.bool false]) ?_ 0 _ rfl;(with_reducible repeat (first | refine dN ?_ _ | refine dD ?_ | refine dA ?_ _));exact BK175.out) : P := h
theorem qq2 (h : P := by (with_reducible repeat (first | refine dN ?_ _ | refine dD ?_ | refine dA ?_ _));refine blk_put (cs:=#[.int .i64 ((rd_T45 l0 x11_1).f0),.int .i64 ((rd_T45 l0 x11_1).f1),.slice none 0 0]) ?_ 2 _ rfl;(with_reducible repeat (first | refine dN ?_ _ | refine dD ?_ | refine dA ?_ _));refine blk_put (cs:=#[.int .i64 ((rd_T45 l0 x11_1).f0),.int .i64 0,.slice none 0 0]) ?_ 1 _ rfl;(with_reducible repeat (first | refine dN ?_ _ | refine dD ?_ | refine dA ?_ _));refine blk_put (cs:=#[.int .i64 0,.int .i64 0,.slice none 0 0]) ?_ 0 _ rfl;(with_reducible repeat (first | refine dN ?_ _ | refine dD ?_ | refine dA ?_ _));exact BK107.out) : P := h
theorem qq3 (h : P := by (with_reducible repeat (first | apply kA | apply kN | apply kD));exact Kd.R_mono (Kd.R_far (p:=⟨gb107,2,none⟩) (Kd.R_far (p:=⟨gb107,1,none⟩) (Kd.R_far (p:=⟨gb107,0,none⟩) (Kd.R_types HO_3.out BK107.out (by decide)) (fun _ hk => hk.2) (.int .i64 ((rd_T45 l0 x11_1).f0))) (fun _ hk => hk.2) (.int .i64 ((rd_T45 l0 x11_1).f1))) (fun _ hk => hk.2) (.slice A106_2 ((rd_T45 l0 x11_1).f2).length c106_2)) (fun _ hk => trivial)) : P := h
theorem qq4 (h : P := by first | (rw [add_block];exact (fun e_ => ((HL263_2.out.1 _ e_.symm).2) rfl)) | (show some (Addr.add _ _).block ≠ _;rw [add_block];exact (fun e_ => ((HL263_2.out.1 _ e_.symm).2) rfl)) | exact (fun e_ => ((HL263_2.out.1 _ e_.symm).2) rfl)) : P := h
theorem qq5 (h : P := by first | (rw [add_block];exact (fun e_ => ((HL199_2.out.1 _ e_.symm).2) rfl)) | (show some (Addr.add _ _).block ≠ _;rw [add_block];exact (fun e_ => ((HL199_2.out.1 _ e_.symm).2) rfl)) | exact (fun e_ => ((HL199_2.out.1 _ e_.symm).2) rfl)) : P := h
theorem qq6 (h : P := by first | (rw [add_block];exact (fun e_ => ((HL145_2.out.1 _ e_.symm).2) rfl)) | (show some (Addr.add _ _).block ≠ _;rw [add_block];exact (fun e_ => ((HL145_2.out.1 _ e_.symm).2) rfl)) | exact (fun e_ => ((HL145_2.out.1 _ e_.symm).2) rfl)) : P := h
theorem qq7 (h : P := by exact (keep_size (w:=w) (g:=g) (row:=none) qq36)) : P := h
theorem qq8 (h : P := by have h_ : (x24_2 : Int) < ((x6_2.length : Int) : Int):=odt qq94;first | exact h_ | (have e_:=(Kd.S_reads' HO_6.out).1;omega) | simpa using h_) : P := h
theorem qq9 (h : P := by have h_ : (t336 : Int) < ((t332.length : Int) : Int):=odt qq94;first | exact h_ | (have e_:=(Kd.S_reads' HO335.out).1;omega) | simpa using h_) : P := h
theorem qq10 (h : P := by have h_ : (x7_1 : Int) < ((x6_1.length : Int) : Int):=odt qq94;first | exact h_ | (have e_:=(Kd.S_reads' HO_6.out).1;omega) | simpa using h_) : P := h
theorem qq11 (h : P := by have h_ : (x73_3 : Int) < ((x8_3.length : Int) : Int):=odt qq94;first | exact h_ | (have e_:=(HN43.out);omega) | simpa using h_) : P := h
theorem qq12 (h : P := by have h_ : (x33_2 : Int) < ((x8_2.length : Int) : Int):=odt qq94;first | exact h_ | (have e_:=(HN31.out);omega) | simpa using h_) : P := h
theorem qq13 (h : P := by have h_ : (x10_4 : Int) < ((x6_3.length : Int) : Int):=odt qq94;first | exact h_ | (have e_:=(HN41.out);omega) | simpa using h_) : P := h
theorem qq14 (h : P := by have h_ : (x9_2 : Int) < ((x6_4.length : Int) : Int):=odt qq94;first | exact h_ | (have e_:=(HN32.out);omega) | simpa using h_) : P := h
theorem qq15 (h : P := by have h_ : (t336 : Int) < ((t332.length : Int) : Int):=odt qq94;first | exact h_ | (have e_:=(HN66.out);omega) | simpa using h_) : P := h
theorem qq16 (h : P := by repeat (first | (with_reducible first | exact HI376.out | apply IsS73.alloc | apply IsS73.drewN | apply IsS73.drew | apply IsS73.set_1 | apply IsS73.set_2) | exact HI376.out)) : P := h
theorem qq17 (h : P := by repeat (first | (with_reducible exact HR143_2.out) | (with_reducible refine cA ?_ _) | (with_reducible refine cN ?_ _) | (with_reducible refine cD ?_) | exact HR143_2.out)) : P := h
theorem qq18 (h : P := by repeat (first | (with_reducible first | exact HI0.out | apply IsS73.alloc | apply IsS73.drewN | apply IsS73.drew | apply IsS73.set_1 | apply IsS73.set_2) | exact HI0.out)) : P := h
theorem qq19 (h : P := by exact Kd.C_below HR117_2.out qq48) : P := h
theorem qq20 (h : P := by first | rfl | (simp [errW_none,errW_some] <;> rfl) | (simp only [← hji8];first | rfl | (simp [errW_none,errW_some] <;> rfl)) | (simp [*,errW_none,errW_some] <;> rfl)) : P := h
theorem qq21 (h : P := by first | (rw [add_block];exact Kd.S_lt HO_8.out _ rfl) | (show (Addr.add _ _).block < _;rw [add_block];exact Kd.S_lt HO_8.out _ rfl) | exact Kd.S_lt HO_8.out _ rfl) : P := h
theorem qq22 (h : P := by first | (rw [add_block];exact Kd.S_lt HO_6.out _ rfl) | (show (Addr.add _ _).block < _;rw [add_block];exact Kd.S_lt HO_6.out _ rfl) | exact Kd.S_lt HO_6.out _ rfl) : P := h
theorem qq23 (h : P := by (with_reducible repeat (first | apply Kd.S_alloc | apply Kd.S_drewN | apply Kd.S_drew));exact Kd.S_mono HO335.out (fun k_ hk => ⟨⟨hk.1,hk.2⟩,fun e_ => e_⟩)) : P := h
theorem qq24 (h : P := by (with_reducible repeat (first | apply Kd.S_alloc | apply Kd.S_drewN | apply Kd.S_drew));exact Kd.S_mono HO_6.out (fun k_ hk => ⟨trivial,fun e_ => hk e_⟩)) : P := h
theorem qq25 (h : P := by repeat (first | exact (Kd.S_reads' HO423.out).2.2 | (with_reducible refine cA ?_ _) | (with_reducible refine cN ?_ _) | (with_reducible refine cD ?_))) : P := h
theorem qq26 (h : P := by repeat (first | exact (Kd.S_reads' HO419.out).2.2 | (with_reducible refine cA ?_ _) | (with_reducible refine cN ?_ _) | (with_reducible refine cD ?_))) : P := h
theorem qq27 (h : P := by repeat (first | exact (Kd.R_reads' HO329.out).2.2 | (with_reducible refine cA ?_ _) | (with_reducible refine cN ?_ _) | (with_reducible refine cD ?_))) : P := h
theorem qq28 (h : P := by repeat (first | exact (Kd.C_below HR1.out HB.out) | (with_reducible refine cA ?_ _) | (with_reducible refine cN ?_ _) | (with_reducible refine cD ?_))) : P := h
theorem qq29 (h : P := by repeat (first | exact (Kd.C_below HR0.out HB.out) | (with_reducible refine cA ?_ _) | (with_reducible refine cN ?_ _) | (with_reducible refine cD ?_))) : P := h
theorem qq30 (h : P := by (try simp only [hl8_2]);(try simp only [hl8_3]);(with_reducible repeat (first | apply Kd.S_alloc | apply Kd.S_drewN | apply Kd.S_drew));exact HO_8.out) : P := h
theorem qq31 (h : P := by (try simp only [hl6_2]);(try simp only [hl6_4]);(with_reducible repeat (first | apply Kd.S_alloc | apply Kd.S_drewN | apply Kd.S_drew));exact HO_6.out) : P := h
theorem qq32 (h : P := by repeat (first | exact (Kd.S_reads' HO_6.out).2.2 | (with_reducible refine cA ?_ _) | (with_reducible refine cN ?_ _) | (with_reducible refine cD ?_))) : P := h
theorem qq33 (h : P := by repeat (first | exact (Kd.S_reads' HO_5.out).2.2 | (with_reducible refine cA ?_ _) | (with_reducible refine cN ?_ _) | (with_reducible refine cD ?_))) : P := h
theorem qq34 (h : P := by repeat (first | exact (Kd.S_reads' HO_4.out).2.2 | (with_reducible refine cA ?_ _) | (with_reducible refine cN ?_ _) | (with_reducible refine cD ?_))) : P := h
theorem qq35 (h : P := by repeat (first | exact (Kd.R_reads' HO_3.out).2.2 | (with_reducible refine cA ?_ _) | (with_reducible refine cN ?_ _) | (with_reducible refine cD ?_))) : P := h
theorem qq36 (h : P := by repeat (first | (with_reducible first | exact HK.out | apply KeepBut.set_ | apply keep_drewN | apply keep_drew | apply keep_alloc) | exact HK.out)) : P := h
theorem qq37 (h : P := by repeat (first | (with_reducible first | exact HB.out | apply bA | apply bN | apply bD | refine below_set ?_ (IsS73.ge HI395.out)) | exact HB.out)) : P := h
theorem qq38 (h : P := by repeat (first | (with_reducible first | exact HB.out | apply bA | apply bN | apply bD | refine below_set ?_ (IsS73.ge HI376.out)) | exact HB.out)) : P := h
theorem qq39 (h : P := by repeat (first | (with_reducible first | exact HB.out | apply bA | apply bN | apply bD | refine below_set ?_ (IsS73.ge HI364.out)) | exact HB.out)) : P := h
theorem qq40 (h : P := by repeat (first | (with_reducible first | exact HB.out | apply bA | apply bN | apply bD | refine below_set ?_ (IsS73.ge HI0.out)) | exact HB.out)) : P := h
theorem qq41 (h : P := by (with_reducible repeat (first | apply Kd.S_alloc | apply Kd.S_drewN | apply Kd.S_drew));exact Kd.S_mono HO_4.out (fun _ hk => ⟨hk.2,hk.1.2⟩)) : P := h
theorem qq42 (h : P := by rw [hg];exact (below_size qq64)) : P := h
theorem qq43 (h : P := by (with_reducible repeat (first | apply Kd.S_alloc | apply Kd.S_drewN | apply Kd.S_drew));exact Kd.S_mono HO335.out (fun _ hk => trivial)) : P := h
theorem qq44 (h : P := by rw [hg];exact (below_size qq73)) : P := h
theorem qq45 (h : P := by repeat (first | (with_reducible first | exact HB.out | apply bA | apply bN | apply bD | refine below_set ?_ GE196.out) | exact HB.out)) : P := h
theorem qq46 (h : P := by repeat (first | (with_reducible first | exact HB.out | apply bA | apply bN | apply bD | refine below_set ?_ GE175.out) | exact HB.out)) : P := h
theorem qq47 (h : P := by repeat (first | (with_reducible first | exact HB.out | apply bA | apply bN | apply bD | refine below_set ?_ GE130.out) | exact HB.out)) : P := h
theorem qq48 (h : P := by repeat (first | (with_reducible first | exact HB.out | apply bA | apply bN | apply bD | refine below_set ?_ GE118.out) | exact HB.out)) : P := h
theorem qq49 (h : P := by repeat (first | (with_reducible first | exact HB.out | apply bA | apply bN | apply bD | refine below_set ?_ GE107.out) | exact HB.out)) : P := h
theorem qq50 (h : P := by (try simp only [List.map_toArray,List.map_cons,List.map_nil]);first | done | rfl | (simp only [List.length_drop,List.length_take];rfl)) : P := h
theorem qq51 (h : P := by repeat (first | exact HR0.out | (with_reducible refine cA ?_ _) | (with_reducible refine cN ?_ _) | (with_reducible refine cD ?_))) : P := h
theorem qq52 (h : P := by first | exact q262 | exact odt qq94 | (have e_:=(Kd.S_reads' HO_6.out).1;omega)) : P := h
theorem qq53 (h : P := by first | exact q261 | exact odt qq94 | (have e_:=(Kd.S_reads' HO_6.out).1;omega)) : P := h
theorem qq54 (h : P := by first | exact q198 | exact odt qq94 | (have e_:=(Kd.S_reads' HO_6.out).1;omega)) : P := h
theorem qq55 (h : P := by first | exact q197 | exact odt qq94 | (have e_:=(Kd.S_reads' HO_6.out).1;omega)) : P := h
theorem qq56 (h : P := by first | exact q161 | exact odt qq94 | (have e_:=(Kd.S_reads' HO_8.out).1;omega)) : P := h
theorem qq57 (h : P := by first | exact q160 | exact odt qq94 | (have e_:=(Kd.S_reads' HO_8.out).1;omega)) : P := h
theorem qq58 (h : P := by first | exact q159 | exact odt qq94 | (have e_:=(Kd.S_reads' HO_8.out).1;omega)) : P := h
theorem qq59 (h : P := by first | exact q142 | exact odt qq94 | (have e_:=(Kd.S_reads' HO_8.out).1;omega)) : P := h
theorem qq60 (h : P := by exact (below_size qq73)) : P := h
theorem qq61 (h : P := by (try simp only [hl8_2]);(with_reducible repeat (first | apply Kd.S_alloc | apply Kd.S_drewN | apply Kd.S_drew));exact HO_8.out) : P := h
theorem qq62 (h : P := by (try simp only [hl6_2]);(with_reducible repeat (first | apply Kd.S_alloc | apply Kd.S_drewN | apply Kd.S_drew));exact HO_6.out) : P := h
theorem qq63 (h : P := by exact qq73) : P := h
theorem qq64 (h : P := by repeat (first | (with_reducible first | exact HBW.out | apply bA | apply bN | apply bD) | exact HBW.out)) : P := h
theorem qq65 (h : P := by (with_reducible repeat (first | apply Kd.S_alloc | apply Kd.S_drewN | apply Kd.S_drew));exact HO423.out) : P := h
theorem qq66 (h : P := by (with_reducible repeat (first | apply Kd.S_alloc | apply Kd.S_drewN | apply Kd.S_drew));exact HO419.out) : P := h
theorem qq67 (h : P := by (with_reducible repeat (first | apply Kd.S_alloc | apply Kd.S_drewN | apply Kd.S_drew));exact HO403.out) : P := h
theorem qq68 (h : P := by (with_reducible repeat (first | apply Kd.S_alloc | apply Kd.S_drewN | apply Kd.S_drew));exact HO391.out) : P := h
theorem qq69 (h : P := by (with_reducible repeat (first | apply Kd.S_alloc | apply Kd.S_drewN | apply Kd.S_drew));exact HO379.out) : P := h
theorem qq70 (h : P := by (with_reducible repeat (first | apply Kd.S_alloc | apply Kd.S_drewN | apply Kd.S_drew));exact HO335.out) : P := h
theorem qq71 (h : P := by (with_reducible repeat (first | apply Kd.S_alloc | apply Kd.S_drewN | apply Kd.S_drew));exact HO184.out) : P := h
theorem qq72 (h : P := by (with_reducible repeat (first | apply Kd.S_alloc | apply Kd.S_drewN | apply Kd.S_drew));exact HO139.out) : P := h
theorem qq73 (h : P := by repeat (first | (with_reducible first | exact HB.out | apply bA | apply bN | apply bD) | exact HB.out)) : P := h
theorem qq74 (h : P := by (with_reducible repeat (first | apply Kd.S_alloc | apply Kd.S_drewN | apply Kd.S_drew));exact HO_8.out) : P := h
theorem qq75 (h : P := by (with_reducible repeat (first | apply Kd.S_alloc | apply Kd.S_drewN | apply Kd.S_drew));exact HO_6.out) : P := h
theorem qq76 (h : P := by (with_reducible repeat (first | apply Kd.S_alloc | apply Kd.S_drewN | apply Kd.S_drew));exact HO_5.out) : P := h
theorem qq77 (h : P := by (with_reducible repeat (first | apply Kd.S_alloc | apply Kd.S_drewN | apply Kd.S_drew));exact HO_4.out) : P := h
theorem qq78 (h : P := by (with_reducible repeat (first | apply Kd.S_alloc | apply Kd.S_drewN | apply Kd.S_drew));exact HO_3.out) : P := h
theorem qq79 (h : P := by (with_reducible repeat (first | refine dN ?_ _ | refine dD ?_ | refine dA ?_ _));exact BK130.out) : P := h
theorem qq80 (h : P := by (with_reducible repeat (first | refine dN ?_ _ | refine dD ?_ | refine dA ?_ _));exact BK107.out) : P := h
theorem qq81 (h : P := by first | rfl | (simp [errW_none,errW_some] <;> rfl) | (simp [*,errW_none,errW_some] <;> rfl)) : P := h
theorem qq82 (h : P := by exact qq88) : P := h
theorem qq83 (h : P := by (with_reducible repeat (first | apply kA | apply kN | apply kD));exact HO405.out) : P := h
theorem qq84 (h : P := by (with_reducible repeat (first | apply kA | apply kN | apply kD));exact HO351.out) : P := h
theorem qq85 (h : P := by (with_reducible repeat (first | apply kA | apply kN | apply kD));exact HO344.out) : P := h
theorem qq86 (h : P := by (with_reducible repeat (first | apply kA | apply kN | apply kD));exact HO329.out) : P := h
theorem qq87 (h : P := by (with_reducible repeat (first | apply kA | apply kN | apply kD));exact HO_4.out) : P := h
theorem qq88 (h : P := by (with_reducible repeat (first | apply kA | apply kN | apply kD));exact HO_3.out) : P := h
theorem qq89 (h : P := by have:=HK1.out;have:=HK2.out;first | omega | exact Nat.le_refl _) : P := h
theorem qq90 (h : P := by have:=HK1.out;have:=HK2.out;have:=HJ13.out;have:=HK4.out;omega) : P := h
theorem qq91 (h : P := by have:=HJ3.out;have:=HK2.out;have:=HK3.out;have:=HK4.out;omega) : P := h
theorem qq92 (h : P := by repeat (first | exact Drawn0.refl _ | apply Drawn0.step)) : P := h
theorem qq93 (h : P := by have:=HK1.out;first | omega | exact Nat.le_refl _) : P := h
theorem qq94 (h : P := by first | (with_reducible assumption) | assumption) : P := h
theorem qq95 (h : P := by first | rfl | (simp;done) | (simp [*];done)) : P := h
theorem qq96 (h : P := by first | (go_simp;done) | (go_simp;rfl)) : P := h
theorem qq97 (h : P := by exact (fun k_ hk => .inr ⟨trivial,hk⟩)) : P := h
theorem qq98 (h : P := by first | omega | exact Nat.le_refl _) : P := h
theorem qq99 (h : P := by exact (Kd.S_reads' HO423.out).2.1) : P := h
theorem qq100 (h : P := by exact (Kd.S_reads' HO419.out).2.1) : P := h
theorem qq101 (h : P := by exact (Kd.R_reads' HO329.out).2.1) : P := h
theorem qq102 (h : P := by exact (Kd.S_reads' HO_5.out).2.1) : P := h
theorem qq103 (h : P := by exact (Kd.S_reads' HO_4.out).2.1) : P := h
theorem qq104 (h : P := by exact (Kd.R_reads' HO_3.out).2.1) : P := h
theorem qq105 (h : P := by exact (fun _ _ => trivial)) : P := h
theorem qq106 (h : P := by exact (Reps.none _ _)) : P := h
theorem qq107 (h : P := by have:=HK1.out;omega) : P := h
theorem qq108 (h : P := by exact Kd.S_mono (Kd.S_keep (IsS73.apartS (show IsS73 w0 _ g s0_0 x1001_1 x1002_1 from by repeat (first | (with_reducible first | exact HI0.out | apply IsS73.alloc | apply IsS73.drewN | apply IsS73.drew | apply IsS73.set_1 | apply IsS73.set_2) | exact HI0.out)) qq77 (by decide)) hk (fun _ h => h.2)) (fun _ h => h.1)) : P := h
theorem qq109 (h : P := by exact Kd.R_mono (Kd.R_keep (IsS73.apart (show IsS73 w0 _ g s0_0 x1001_1 x1002_1 from by repeat (first | (with_reducible first | exact HI0.out | apply IsS73.alloc | apply IsS73.drewN | apply IsS73.drew | apply IsS73.set_1 | apply IsS73.set_2) | exact HI0.out)) qq88 (by decide)) hk (fun _ h => h.2)) (fun _ h => h.1)) : P := h
theorem qq110 (h : P := by exact Kd.S_mono (Kd.S_keep (IsS73.apartS (show IsS73 w0 _ g s0_0 t319 t320 from by repeat (first | (with_reducible first | exact HI0.out | apply IsS73.alloc | apply IsS73.drewN | apply IsS73.drew | apply IsS73.set_1 | apply IsS73.set_2) | exact HI0.out)) qq77 (by decide)) hk (fun _ h => h.2)) (fun _ h => h.1)) : P := h
theorem qq111 (h : P := by exact Kd.S_mono (Kd.S_keep (IsS73.apartS (show IsS73 w0 _ g s0_0 t330 t331 from by repeat (first | (with_reducible first | exact HI0.out | apply IsS73.alloc | apply IsS73.drewN | apply IsS73.drew | apply IsS73.set_1 | apply IsS73.set_2) | exact HI0.out)) qq77 (by decide)) hk (fun _ h => h.2)) (fun _ h => h.1)) : P := h
theorem qq112 (h : P := by exact Kd.S_mono (Kd.S_keep (IsS73.apartS (show IsS73 w0 _ g s0_0 t330 t331 from by repeat (first | (with_reducible first | exact HI0.out | apply IsS73.alloc | apply IsS73.drewN | apply IsS73.drew | apply IsS73.set_1 | apply IsS73.set_2) | exact HI0.out)) qq70 (by decide)) hk (fun _ h => h.2)) (fun _ h => h.1)) : P := h
theorem qq113 (h : P := by exact Kd.S_mono (Kd.S_keep (IsS73.apartS (show IsS73 w0 _ g s0_0 t337 t338 from by repeat (first | (with_reducible first | exact HI0.out | apply IsS73.alloc | apply IsS73.drewN | apply IsS73.drew | apply IsS73.set_1 | apply IsS73.set_2) | exact HI0.out)) qq77 (by decide)) hk (fun _ h => h.2)) (fun _ h => h.1)) : P := h
theorem qq114 (h : P := by exact Kd.S_mono (Kd.S_keep (IsS73.apartS (show IsS73 w0 _ g s0_0 t337 t338 from by repeat (first | (with_reducible first | exact HI0.out | apply IsS73.alloc | apply IsS73.drewN | apply IsS73.drew | apply IsS73.set_1 | apply IsS73.set_2) | exact HI0.out)) qq70 (by decide)) hk (fun _ h => h.2)) (fun _ h => h.1)) : P := h
theorem qq115 (h : P := by exact Kd.S_mono (Kd.S_keep (IsS73.apartS (show IsS73 w0 _ g s0_0 t340 t341 from by repeat (first | (with_reducible first | exact HI0.out | apply IsS73.alloc | apply IsS73.drewN | apply IsS73.drew | apply IsS73.set_1 | apply IsS73.set_2) | exact HI0.out)) qq77 (by decide)) hk (fun _ h => h.2)) (fun _ h => h.1)) : P := h
theorem qq116 (h : P := by exact Kd.S_mono (Kd.S_keep (IsS73.apartS (show IsS73 w0 _ g s0_0 t340 t341 from by repeat (first | (with_reducible first | exact HI0.out | apply IsS73.alloc | apply IsS73.drewN | apply IsS73.drew | apply IsS73.set_1 | apply IsS73.set_2) | exact HI0.out)) qq70 (by decide)) hk (fun _ h => h.2)) (fun _ h => h.1)) : P := h
theorem qq117 (h : P := by exact Kd.R_mono (Kd.R_keep (IsS73.apart (show IsS73 w0 _ g s0_0 t330 t331 from by repeat (first | (with_reducible first | exact HI0.out | apply IsS73.alloc | apply IsS73.drewN | apply IsS73.drew | apply IsS73.set_1 | apply IsS73.set_2) | exact HI0.out)) qq86 (by decide)) hk (fun _ h => h.2)) (fun _ h => h.1)) : P := h
theorem qq118 (h : P := by exact Kd.R_mono (Kd.R_keep (IsS73.apart (show IsS73 w0 _ g s0_0 t337 t338 from by repeat (first | (with_reducible first | exact HI0.out | apply IsS73.alloc | apply IsS73.drewN | apply IsS73.drew | apply IsS73.set_1 | apply IsS73.set_2) | exact HI0.out)) qq86 (by decide)) hk (fun _ h => h.2)) (fun _ h => h.1)) : P := h
theorem qq119 (h : P := by exact Kd.R_mono (Kd.R_keep (IsS73.apart (show IsS73 w0 _ g s0_0 t340 t341 from by repeat (first | (with_reducible first | exact HI0.out | apply IsS73.alloc | apply IsS73.drewN | apply IsS73.drew | apply IsS73.set_1 | apply IsS73.set_2) | exact HI0.out)) qq86 (by decide)) hk (fun _ h => h.2)) (fun _ h => h.1)) : P := h
theorem qq120 (h : P := by exact Kd.S_lower (Kd.S_new' ho0 (Kd.S_lt qq77)) (keep_size (w:=w) (g:=g) (row:=none) qq36)) : P := h
theorem qq121 (h : P := by exact show Kd.R (Kd.int .i64) 3 _ _ _ _ ((rd_T45 x8_3 x73_3).f2) from ge159_2) : P := h
theorem qq122 (h : P := by exact show Kd.R (Kd.int .i64) 3 _ _ _ _ ((rd_T45 x6_4 x9_2).f2) from ge261_2) : P := h
theorem qq123 (h : P := by exact show Kd.R (Kd.int .i64) 3 _ _ _ _ ((rd_T45 x6_4 x9_2).f2) from ge262_2) : P := h
theorem qq124 (h : P := by exact Kd.S_lower (Kd.S_new' ho0 (Kd.S_lt qq75)) (below_size qq73)) : P := h
theorem qq125 (h : P := by exact Kd.S_lower (Kd.S_new' ho0 (Kd.S_lt qq66)) (below_size qq73)) : P := h
theorem qq126 (h : P := by exact KeepBut.trans qq36 (KeepBut.of_below hb g none) (.inl rfl)) : P := h
theorem qq127 (h : P := by exact Kd.R_lower ho0 (keep_size (w:=w) (g:=g) (row:=none) qq36)) : P := h
theorem qq128 (h : P := by exact Kd.S_elder' qq75 (Kd.S_base ho0) hb) : P := h
theorem qq129 (h : P := by exact Kd.S_elder' qq77 (Kd.S_base ho0) hb) : P := h
theorem qq130 (h : P := by exact Kd.S_elder' qq66 (Kd.S_base ho0) hb) : P := h
theorem qq131 (h : P := by exact Kd.S_lower ho0 (below_size qq73)) : P := h
theorem qq132 (h : P := by exact KeepBut.trans qq36 hk (.inl rfl)) : P := h
theorem qq133 (h : P := by exact (qq44 : w.heap.size ≤ gb118)) : P := h
theorem qq134 (h : P := by exact (qq44 : w.heap.size ≤ gb175)) : P := h
theorem qq135 (h : P := by exact Below.refl w.heap.size w) : P := h
theorem qq136 (h : P := by exact KeepBut.refl w g none) : P := h
theorem qq137 (h : P := by exact IsS73.below qq18 hb) : P := h
theorem qq138 (h : P := by exact below_step qq73 hb) : P := h
theorem qq139 (h : P := by exact Kd.R_drew HO_3.out) : P := h
theorem qq140 (h : P := by exact blk_drew BK107.out) : P := h
theorem qq141 (h : P := by exact below_drew1 HB.out) : P := h
theorem qq142 (h : P := by exact blk_drew BK175.out) : P := h
theorem qq143 (h : P := by exact Kd.S_below qq75 hb) : P := h
theorem qq144 (h : P := by exact Kd.S_drew HO_6.out) : P := h
theorem qq145 (h : P := by exact below_step qq40 hb) : P := h
theorem qq146 (h : P := by exact Kd.R_below qq86 hb) : P := h
theorem qq147 (h : P := by exact Kd.S_below qq66 hb) : P := h
theorem qq148 (h : P := by exact Kd.S_below qq65 hb) : P := h
end
end Go.Proofs.Ytnghncedinngoaa.PFnTents
