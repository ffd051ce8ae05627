/- Contracts of functions that the law FnRations reaches, for its row: lines that the kit's printer wrote for this claim, set shorter by a program of this session (own.py), and what fell in Lean proved anew. Lean checks them. -/
import Derived.Test.YtcbkknpmeknppaaProg
import Derived.Below
import Derived.Deep.Draws
import Derived.Deep.AppendLies
import Derived.Maps.AppendAt
import Derived.OwnWalk
import Derived.Laws.BytesArg
import Derived.Laws.MakeOwn
import Derived.Laws.OwnMore
import Derived.Deep.OwnRows
import Derived.Tactics
import Derived.Lib.ConvBytes
import Derived.Laws.Slices
import Derived.WalkKit
import Derived.KernelRfl
import Derived.RowKit3
import Derived.Deep.LoopGhost
import Derived.Deep.QuietTactic
import Derived.BigQuiet
import Derived.WideLaws
import Derived.Deep.DeepCutAuto
import Derived.Deep.CutBlock
import Derived.Deep.RegionHeld3
import Derived.Laws.Rows
import Derived.Lib.AppendStr
import Derived.ArgAppend
import Derived.Laws.IdiomCopy
import Derived.OrdersHeld
import Derived.Laws.BitsLemmas
import Derived.RowKit
import Derived.Test.YtcbkknpmeknppaaWWords
import Derived.Test.YtcbkknpmeknppaaWLast
import Derived.Test.YtcbkknpmeknppaaWTab
import Derived.Test.YtcbkknpmeknppaaWFour
import Derived.Test.YtcbkknpmeknppaaWQPut
import Derived.Test.YtcbkknpmeknppaaWApart
import Derived.Test.YtcbkknpmeknppaaWArr
import Derived.Test.YtcbkknpmeknppaaWZeros
import Derived.Test.YtcbkknpmeknppaaWFoot
import Derived.Test.YtcbkknpmeknppaaWKept
import Derived.Test.YtcbkknpmeknppaaWShare
import Derived.Test.YtcbkknpmeknppaaWN
import Derived.Test.YtcbkknpmeknppaaWFootNe
import Derived.Test.YtcbkknpmeknppaaWAt
import Derived.Test.YtcbkknpmeknppaaWEqStruct
import Derived.Test.YtcbkknpmeknppaaWRepsOne
import Derived.Test.YtcbkknpmeknppaaWInv
import Derived.Test.YtcbkknpmeknppaaWInvWords
import Derived.Test.YtcbkknpmeknppaaWGuard
import Derived.Test.YtcbkknpmeknppaaWNEv
import Derived.Test.YtcbkknpmeknppaaWMore
namespace Go.Proofs.Ytcbkknpmeknppaa.PFnRations
open Go.RowKit Go.Proofs.YtcbkknpmeknppaaW.PrintWords Go.Proofs.YtcbkknpmeknppaaW.PrintLast Go.Proofs.YtcbkknpmeknppaaW.PrintMore
attribute [local go_sem] max2_int min2_int max_two min_two max_three min_three max_four min_four   -- for this text's walks alone
set_option linter.unusedVariables false
set_option linter.unusedSimpArgs false



theorem ct {w w' : World} {a : Addr} {v : Value} (h : Below w.heap.size w w') (e : w.cell? a = some v) : w'.cell? a = some v := (h.cell (World.block_lt_of_cell? w _ e)).trans e
theorem sA {α : Type} (l : List α) (i : Nat) (a : α) : l.toArray.setIfInBounds i a = (l.set i a).toArray := List.setIfInBounds_toArray ..
theorem s0 {α : Type} {x a : α} {xs : List α} : (x :: xs).set 0 a = a :: xs := rfl
theorem s1 {α : Type} {n : Nat} {x a : α} {xs : List α} : (x :: xs).set (n + 1) a = x :: xs.set n a := rfl
abbrev am {P : Prop} (h : P) : Aside0 P := ⟨h⟩
abbrev bl := @World.block_lt_of_cell?
abbrev bA := @below_alloc
abbrev bN := @pw_below_drewN
abbrev bD := @below_drew1
abbrev kA := @Kd.R_alloc
abbrev kN := @Kd.R_drewN
abbrev kD := @Kd.R_drew
abbrev cA := @Kd.C_alloc
abbrev cN := @Kd.C_drewN
abbrev cD := @Kd.C_drew
abbrev dN := @blk_drewN
abbrev dD := @blk_drew
abbrev dA := @blk_alloc
abbrev bS := @Option.bind_eq_some_iff
abbrev odt := @of_decide_eq_true
theorem bcl1 {w : World} {g : Nat} {t : TypeId} {x0 : Value} (h : w.heap[g]? = some (.cells #[x0] t (0, 0))) : w.cell? ⟨g, 0, none⟩ = some x0 ∧ w.frozen? ⟨g, 0, none⟩ = false := ⟨(blk_cell h 0).trans rfl, blk_frozen h 0⟩
theorem bcl2 {w : World} {g : Nat} {t : TypeId} {x0 x1 : Value} (h : w.heap[g]? = some (.cells #[x0, x1] t (0, 0))) : w.cell? ⟨g, 0, none⟩ = some x0 ∧ w.cell? ⟨g, 1, none⟩ = some x1 ∧ w.frozen? ⟨g, 0, none⟩ = false ∧ w.frozen? ⟨g, 1, none⟩ = false := ⟨(blk_cell h 0).trans rfl, (blk_cell h 1).trans rfl, blk_frozen h 0, blk_frozen h 1⟩
theorem bcl3 {w : World} {g : Nat} {t : TypeId} {x0 x1 x2 : Value} (h : w.heap[g]? = some (.cells #[x0, x1, x2] t (0, 0))) : w.cell? ⟨g, 0, none⟩ = some x0 ∧ w.cell? ⟨g, 1, none⟩ = some x1 ∧ w.cell? ⟨g, 2, none⟩ = some x2 ∧ w.frozen? ⟨g, 0, none⟩ = false ∧ w.frozen? ⟨g, 1, none⟩ = false ∧ w.frozen? ⟨g, 2, none⟩ = false := ⟨(blk_cell h 0).trans rfl, (blk_cell h 1).trans rfl, (blk_cell h 2).trans rfl, blk_frozen h 0, blk_frozen h 1, blk_frozen h 2⟩
theorem bcl4 {w : World} {g : Nat} {t : TypeId} {x0 x1 x2 x3 : Value} (h : w.heap[g]? = some (.cells #[x0, x1, x2, x3] t (0, 0))) : w.cell? ⟨g, 0, none⟩ = some x0 ∧ w.cell? ⟨g, 1, none⟩ = some x1 ∧ w.cell? ⟨g, 2, none⟩ = some x2 ∧ w.cell? ⟨g, 3, none⟩ = some x3 ∧ w.frozen? ⟨g, 0, none⟩ = false ∧ w.frozen? ⟨g, 1, none⟩ = false ∧ w.frozen? ⟨g, 2, none⟩ = false ∧ w.frozen? ⟨g, 3, none⟩ = false := ⟨(blk_cell h 0).trans rfl, (blk_cell h 1).trans rfl, (blk_cell h 2).trans rfl, (blk_cell h 3).trans rfl, blk_frozen h 0, blk_frozen h 1, blk_frozen h 2, blk_frozen h 3⟩
theorem bcl5 {w : World} {g : Nat} {t : TypeId} {x0 x1 x2 x3 x4 : Value} (h : w.heap[g]? = some (.cells #[x0, x1, x2, x3, x4] t (0, 0))) : w.cell? ⟨g, 0, none⟩ = some x0 ∧ w.cell? ⟨g, 1, none⟩ = some x1 ∧ w.cell? ⟨g, 2, none⟩ = some x2 ∧ w.cell? ⟨g, 3, none⟩ = some x3 ∧ w.cell? ⟨g, 4, none⟩ = some x4 ∧ w.frozen? ⟨g, 0, none⟩ = false ∧ w.frozen? ⟨g, 1, none⟩ = false ∧ w.frozen? ⟨g, 2, none⟩ = false ∧ w.frozen? ⟨g, 3, none⟩ = false ∧ w.frozen? ⟨g, 4, none⟩ = false := ⟨(blk_cell h 0).trans rfl, (blk_cell h 1).trans rfl, (blk_cell h 2).trans rfl, (blk_cell h 3).trans rfl, (blk_cell h 4).trans rfl, blk_frozen h 0, blk_frozen h 1, blk_frozen h 2, blk_frozen h 3, blk_frozen h 4⟩
theorem bcl6 {w : World} {g : Nat} {t : TypeId} {x0 x1 x2 x3 x4 x5 : Value} (h : w.heap[g]? = some (.cells #[x0, x1, x2, x3, x4, x5] t (0, 0))) : w.cell? ⟨g, 0, none⟩ = some x0 ∧ w.cell? ⟨g, 1, none⟩ = some x1 ∧ w.cell? ⟨g, 2, none⟩ = some x2 ∧ w.cell? ⟨g, 3, none⟩ = some x3 ∧ w.cell? ⟨g, 4, none⟩ = some x4 ∧ w.cell? ⟨g, 5, none⟩ = some x5 ∧ w.frozen? ⟨g, 0, none⟩ = false ∧ w.frozen? ⟨g, 1, none⟩ = false ∧ w.frozen? ⟨g, 2, none⟩ = false ∧ w.frozen? ⟨g, 3, none⟩ = false ∧ w.frozen? ⟨g, 4, none⟩ = false ∧ w.frozen? ⟨g, 5, none⟩ = false := ⟨(blk_cell h 0).trans rfl, (blk_cell h 1).trans rfl, (blk_cell h 2).trans rfl, (blk_cell h 3).trans rfl, (blk_cell h 4).trans rfl, (blk_cell h 5).trans rfl, blk_frozen h 0, blk_frozen h 1, blk_frozen h 2, blk_frozen h 3, blk_frozen h 4, blk_frozen h 5⟩
theorem bcl7 {w : World} {g : Nat} {t : TypeId} {x0 x1 x2 x3 x4 x5 x6 : Value} (h : w.heap[g]? = some (.cells #[x0, x1, x2, x3, x4, x5, x6] t (0, 0))) : w.cell? ⟨g, 0, none⟩ = some x0 ∧ w.cell? ⟨g, 1, none⟩ = some x1 ∧ w.cell? ⟨g, 2, none⟩ = some x2 ∧ w.cell? ⟨g, 3, none⟩ = some x3 ∧ w.cell? ⟨g, 4, none⟩ = some x4 ∧ w.cell? ⟨g, 5, none⟩ = some x5 ∧ w.cell? ⟨g, 6, none⟩ = some x6 ∧ w.frozen? ⟨g, 0, none⟩ = false ∧ w.frozen? ⟨g, 1, none⟩ = false ∧ w.frozen? ⟨g, 2, none⟩ = false ∧ w.frozen? ⟨g, 3, none⟩ = false ∧ w.frozen? ⟨g, 4, none⟩ = false ∧ w.frozen? ⟨g, 5, none⟩ = false ∧ w.frozen? ⟨g, 6, none⟩ = false := ⟨(blk_cell h 0).trans rfl, (blk_cell h 1).trans rfl, (blk_cell h 2).trans rfl, (blk_cell h 3).trans rfl, (blk_cell h 4).trans rfl, (blk_cell h 5).trans rfl, (blk_cell h 6).trans rfl, blk_frozen h 0, blk_frozen h 1, blk_frozen h 2, blk_frozen h 3, blk_frozen h 4, blk_frozen h 5, blk_frozen h 6⟩
theorem bcl8 {w : World} {g : Nat} {t : TypeId} {x0 x1 x2 x3 x4 x5 x6 x7 : Value} (h : w.heap[g]? = some (.cells #[x0, x1, x2, x3, x4, x5, x6, x7] t (0, 0))) : w.cell? ⟨g, 0, none⟩ = some x0 ∧ w.cell? ⟨g, 1, none⟩ = some x1 ∧ w.cell? ⟨g, 2, none⟩ = some x2 ∧ w.cell? ⟨g, 3, none⟩ = some x3 ∧ w.cell? ⟨g, 4, none⟩ = some x4 ∧ w.cell? ⟨g, 5, none⟩ = some x5 ∧ w.cell? ⟨g, 6, none⟩ = some x6 ∧ w.cell? ⟨g, 7, none⟩ = some x7 ∧ w.frozen? ⟨g, 0, none⟩ = false ∧ w.frozen? ⟨g, 1, none⟩ = false ∧ w.frozen? ⟨g, 2, none⟩ = false ∧ w.frozen? ⟨g, 3, none⟩ = false ∧ w.frozen? ⟨g, 4, none⟩ = false ∧ w.frozen? ⟨g, 5, none⟩ = false ∧ w.frozen? ⟨g, 6, none⟩ = false ∧ w.frozen? ⟨g, 7, none⟩ = false := ⟨(blk_cell h 0).trans rfl, (blk_cell h 1).trans rfl, (blk_cell h 2).trans rfl, (blk_cell h 3).trans rfl, (blk_cell h 4).trans rfl, (blk_cell h 5).trans rfl, (blk_cell h 6).trans rfl, (blk_cell h 7).trans rfl, blk_frozen h 0, blk_frozen h 1, blk_frozen h 2, blk_frozen h 3, blk_frozen h 4, blk_frozen h 5, blk_frozen h 6, blk_frozen h 7⟩
theorem bcl9 {w : World} {g : Nat} {t : TypeId} {x0 x1 x2 x3 x4 x5 x6 x7 x8 : Value} (h : w.heap[g]? = some (.cells #[x0, x1, x2, x3, x4, x5, x6, x7, x8] t (0, 0))) : w.cell? ⟨g, 0, none⟩ = some x0 ∧ w.cell? ⟨g, 1, none⟩ = some x1 ∧ w.cell? ⟨g, 2, none⟩ = some x2 ∧ w.cell? ⟨g, 3, none⟩ = some x3 ∧ w.cell? ⟨g, 4, none⟩ = some x4 ∧ w.cell? ⟨g, 5, none⟩ = some x5 ∧ w.cell? ⟨g, 6, none⟩ = some x6 ∧ w.cell? ⟨g, 7, none⟩ = some x7 ∧ w.cell? ⟨g, 8, none⟩ = some x8 ∧ w.frozen? ⟨g, 0, none⟩ = false ∧ w.frozen? ⟨g, 1, none⟩ = false ∧ w.frozen? ⟨g, 2, none⟩ = false ∧ w.frozen? ⟨g, 3, none⟩ = false ∧ w.frozen? ⟨g, 4, none⟩ = false ∧ w.frozen? ⟨g, 5, none⟩ = false ∧ w.frozen? ⟨g, 6, none⟩ = false ∧ w.frozen? ⟨g, 7, none⟩ = false ∧ w.frozen? ⟨g, 8, none⟩ = false := ⟨(blk_cell h 0).trans rfl, (blk_cell h 1).trans rfl, (blk_cell h 2).trans rfl, (blk_cell h 3).trans rfl, (blk_cell h 4).trans rfl, (blk_cell h 5).trans rfl, (blk_cell h 6).trans rfl, (blk_cell h 7).trans rfl, (blk_cell h 8).trans rfl, blk_frozen h 0, blk_frozen h 1, blk_frozen h 2, blk_frozen h 3, blk_frozen h 4, blk_frozen h 5, blk_frozen h 6, blk_frozen h 7, blk_frozen h 8⟩
theorem bcl10 {w : World} {g : Nat} {t : TypeId} {x0 x1 x2 x3 x4 x5 x6 x7 x8 x9 : Value} (h : w.heap[g]? = some (.cells #[x0, x1, x2, x3, x4, x5, x6, x7, x8, x9] t (0, 0))) : w.cell? ⟨g, 0, none⟩ = some x0 ∧ w.cell? ⟨g, 1, none⟩ = some x1 ∧ w.cell? ⟨g, 2, none⟩ = some x2 ∧ w.cell? ⟨g, 3, none⟩ = some x3 ∧ w.cell? ⟨g, 4, none⟩ = some x4 ∧ w.cell? ⟨g, 5, none⟩ = some x5 ∧ w.cell? ⟨g, 6, none⟩ = some x6 ∧ w.cell? ⟨g, 7, none⟩ = some x7 ∧ w.cell? ⟨g, 8, none⟩ = some x8 ∧ w.cell? ⟨g, 9, none⟩ = some x9 ∧ w.frozen? ⟨g, 0, none⟩ = false ∧ w.frozen? ⟨g, 1, none⟩ = false ∧ w.frozen? ⟨g, 2, none⟩ = false ∧ w.frozen? ⟨g, 3, none⟩ = false ∧ w.frozen? ⟨g, 4, none⟩ = false ∧ w.frozen? ⟨g, 5, none⟩ = false ∧ w.frozen? ⟨g, 6, none⟩ = false ∧ w.frozen? ⟨g, 7, none⟩ = false ∧ w.frozen? ⟨g, 8, none⟩ = false ∧ w.frozen? ⟨g, 9, none⟩ = false := ⟨(blk_cell h 0).trans rfl, (blk_cell h 1).trans rfl, (blk_cell h 2).trans rfl, (blk_cell h 3).trans rfl, (blk_cell h 4).trans rfl, (blk_cell h 5).trans rfl, (blk_cell h 6).trans rfl, (blk_cell h 7).trans rfl, (blk_cell h 8).trans rfl, (blk_cell h 9).trans rfl, blk_frozen h 0, blk_frozen h 1, blk_frozen h 2, blk_frozen h 3, blk_frozen h 4, blk_frozen h 5, blk_frozen h 6, blk_frozen h 7, blk_frozen h 8, blk_frozen h 9⟩
theorem bcl11 {w : World} {g : Nat} {t : TypeId} {x0 x1 x2 x3 x4 x5 x6 x7 x8 x9 x10 : Value} (h : w.heap[g]? = some (.cells #[x0, x1, x2, x3, x4, x5, x6, x7, x8, x9, x10] t (0, 0))) : w.cell? ⟨g, 0, none⟩ = some x0 ∧ w.cell? ⟨g, 1, none⟩ = some x1 ∧ w.cell? ⟨g, 2, none⟩ = some x2 ∧ w.cell? ⟨g, 3, none⟩ = some x3 ∧ w.cell? ⟨g, 4, none⟩ = some x4 ∧ w.cell? ⟨g, 5, none⟩ = some x5 ∧ w.cell? ⟨g, 6, none⟩ = some x6 ∧ w.cell? ⟨g, 7, none⟩ = some x7 ∧ w.cell? ⟨g, 8, none⟩ = some x8 ∧ w.cell? ⟨g, 9, none⟩ = some x9 ∧ w.cell? ⟨g, 10, none⟩ = some x10 ∧ w.frozen? ⟨g, 0, none⟩ = false ∧ w.frozen? ⟨g, 1, none⟩ = false ∧ w.frozen? ⟨g, 2, none⟩ = false ∧ w.frozen? ⟨g, 3, none⟩ = false ∧ w.frozen? ⟨g, 4, none⟩ = false ∧ w.frozen? ⟨g, 5, none⟩ = false ∧ w.frozen? ⟨g, 6, none⟩ = false ∧ w.frozen? ⟨g, 7, none⟩ = false ∧ w.frozen? ⟨g, 8, none⟩ = false ∧ w.frozen? ⟨g, 9, none⟩ = false ∧ w.frozen? ⟨g, 10, none⟩ = false := ⟨(blk_cell h 0).trans rfl, (blk_cell h 1).trans rfl, (blk_cell h 2).trans rfl, (blk_cell h 3).trans rfl, (blk_cell h 4).trans rfl, (blk_cell h 5).trans rfl, (blk_cell h 6).trans rfl, (blk_cell h 7).trans rfl, (blk_cell h 8).trans rfl, (blk_cell h 9).trans rfl, (blk_cell h 10).trans rfl, blk_frozen h 0, blk_frozen h 1, blk_frozen h 2, blk_frozen h 3, blk_frozen h 4, blk_frozen h 5, blk_frozen h 6, blk_frozen h 7, blk_frozen h 8, blk_frozen h 9, blk_frozen h 10⟩
theorem bcl12 {w : World} {g : Nat} {t : TypeId} {x0 x1 x2 x3 x4 x5 x6 x7 x8 x9 x10 x11 : Value} (h : w.heap[g]? = some (.cells #[x0, x1, x2, x3, x4, x5, x6, x7, x8, x9, x10, x11] t (0, 0))) : w.cell? ⟨g, 0, none⟩ = some x0 ∧ w.cell? ⟨g, 1, none⟩ = some x1 ∧ w.cell? ⟨g, 2, none⟩ = some x2 ∧ w.cell? ⟨g, 3, none⟩ = some x3 ∧ w.cell? ⟨g, 4, none⟩ = some x4 ∧ w.cell? ⟨g, 5, none⟩ = some x5 ∧ w.cell? ⟨g, 6, none⟩ = some x6 ∧ w.cell? ⟨g, 7, none⟩ = some x7 ∧ w.cell? ⟨g, 8, none⟩ = some x8 ∧ w.cell? ⟨g, 9, none⟩ = some x9 ∧ w.cell? ⟨g, 10, none⟩ = some x10 ∧ w.cell? ⟨g, 11, none⟩ = some x11 ∧ w.frozen? ⟨g, 0, none⟩ = false ∧ w.frozen? ⟨g, 1, none⟩ = false ∧ w.frozen? ⟨g, 2, none⟩ = false ∧ w.frozen? ⟨g, 3, none⟩ = false ∧ w.frozen? ⟨g, 4, none⟩ = false ∧ w.frozen? ⟨g, 5, none⟩ = false ∧ w.frozen? ⟨g, 6, none⟩ = false ∧ w.frozen? ⟨g, 7, none⟩ = false ∧ w.frozen? ⟨g, 8, none⟩ = false ∧ w.frozen? ⟨g, 9, none⟩ = false ∧ w.frozen? ⟨g, 10, none⟩ = false ∧ w.frozen? ⟨g, 11, none⟩ = false := ⟨(blk_cell h 0).trans rfl, (blk_cell h 1).trans rfl, (blk_cell h 2).trans rfl, (blk_cell h 3).trans rfl, (blk_cell h 4).trans rfl, (blk_cell h 5).trans rfl, (blk_cell h 6).trans rfl, (blk_cell h 7).trans rfl, (blk_cell h 8).trans rfl, (blk_cell h 9).trans rfl, (blk_cell h 10).trans rfl, (blk_cell h 11).trans rfl, blk_frozen h 0, blk_frozen h 1, blk_frozen h 2, blk_frozen h 3, blk_frozen h 4, blk_frozen h 5, blk_frozen h 6, blk_frozen h 7, blk_frozen h 8, blk_frozen h 9, blk_frozen h 10, blk_frozen h 11⟩
theorem pV {P : Program} {ops : Array Oper} {Q : Exit → Act → World → Prop} {md : Region.Mode} {S : World → Prop} {ds : List Nat} {i : Nat} {N : Option Tmp} {oi : Oper} {v : Value} {fuel : Nat} {l : Array Bool} {a : Act} {w : World} {a' : Act} (l' : Array Bool) (hi : ops[i]? = some oi) (hN : oi.dst = N) (hc : anyB md ops l l' i = true) (h : wpAnyLast P md ops Q S ds fuel l' a' w) (hQ : ∀ c a w, Q (.panic c) (a.put oi.dst v) w → Q (.panic c) a w := by exact fun _ _ _ h => h) (hw : Region.wanted oi (yielded ops a.tmps) = true := by rfl) (hv : ∀ w', (execOp a.eval oi).run P w' = .ok (.value v) w' := by intro w'; go_simp; (with_reducible rfl)) (ha : a.put N v = a' := by simp only [Act.put, sA, s0, s1, i64_w, i32_w]; rfl) : wpAnyLast P md ops Q S ds (fuel + 1) l a w := pure_ l' hi hN hc hQ (Or.inl ⟨hw, hv⟩) ha h
theorem pW {P : Program} {ops : Array Oper} {Q : Exit → Act → World → Prop} {md : Region.Mode} {S : World → Prop} {ds : List Nat} {i : Nat} {N : Option Tmp} {oi : Oper} {fuel : Nat} {l : Array Bool} {a : Act} {w : World} {a' : Act} (l' : Array Bool) (hi : ops[i]? = some oi) (hN : oi.dst = N) (hc : anyB md ops l l' i = true) (h : wpAnyLast P md ops Q S ds fuel l' a' w) (hQ : ∀ c a w, Q (.panic c) (a.put oi.dst undef) w → Q (.panic c) a w := by exact fun _ _ _ h => h) (hw : Region.wanted oi (yielded ops a.tmps) = false := by rfl) (ha : a.put N undef = a' := by simp only [Act.put, sA, s0, s1, i64_w, i32_w]; rfl) : wpAnyLast P md ops Q S ds (fuel + 1) l a w := pure_ l' hi hN hc hQ (Or.inr ⟨hw, rfl⟩) ha h
theorem tV1 {P : Program} {ops : Array Oper} {Q : Exit → Act → World → Prop} {md : Region.Mode} {S : World → Prop} {ds : List Nat} {i : Nat} {N : Option Tmp} {oi : Oper} {v : Value} {fuel : Nat} {l : Array Bool} {a : Act} {w : World} {a' : Act} (l' : Array Bool) (hi : ops[i]? = some oi) (hN : oi.dst = N) (hc : takeB md ops ds l l' i = true) (hS : S w) (h : wpAnyLast P md ops Q S ds fuel l' a' w) (hQ : ∀ c a w, Q (.panic c) (a.put oi.dst v) w → Q (.panic c) a w := by exact fun _ _ _ h => h) (hw : Region.wanted oi (yielded ops a.tmps) = true := by rfl) (hv : ∀ w', S w' → (execOp a.eval oi).run P w' = .ok (.value v) w' := by rintro w' ⟨s0⟩; go_simp; with_reducible rfl) (ha : a.put N v = a' := by simp only [Act.put, sA, s0, s1, i64_w, i32_w]; rfl) : wpAnyLast P md ops Q S ds (fuel + 1) l a w := take_ l' hi hN hc hQ (Or.inl ⟨hw, hv⟩) hS ha h
theorem tV2 {P : Program} {ops : Array Oper} {Q : Exit → Act → World → Prop} {md : Region.Mode} {S : World → Prop} {ds : List Nat} {i : Nat} {N : Option Tmp} {oi : Oper} {v : Value} {fuel : Nat} {l : Array Bool} {a : Act} {w : World} {a' : Act} (l' : Array Bool) (hi : ops[i]? = some oi) (hN : oi.dst = N) (hc : takeB md ops ds l l' i = true) (hS : S w) (h : wpAnyLast P md ops Q S ds fuel l' a' w) (hQ : ∀ c a w, Q (.panic c) (a.put oi.dst v) w → Q (.panic c) a w := by exact fun _ _ _ h => h) (hw : Region.wanted oi (yielded ops a.tmps) = true := by rfl) (hv : ∀ w', S w' → (execOp a.eval oi).run P w' = .ok (.value v) w' := by rintro w' ⟨s0, s1⟩; go_simp; with_reducible rfl) (ha : a.put N v = a' := by simp only [Act.put, sA, s0, s1, i64_w, i32_w]; rfl) : wpAnyLast P md ops Q S ds (fuel + 1) l a w := take_ l' hi hN hc hQ (Or.inl ⟨hw, hv⟩) hS ha h
theorem tV3 {P : Program} {ops : Array Oper} {Q : Exit → Act → World → Prop} {md : Region.Mode} {S : World → Prop} {ds : List Nat} {i : Nat} {N : Option Tmp} {oi : Oper} {v : Value} {fuel : Nat} {l : Array Bool} {a : Act} {w : World} {a' : Act} (l' : Array Bool) (hi : ops[i]? = some oi) (hN : oi.dst = N) (hc : takeB md ops ds l l' i = true) (hS : S w) (h : wpAnyLast P md ops Q S ds fuel l' a' w) (hQ : ∀ c a w, Q (.panic c) (a.put oi.dst v) w → Q (.panic c) a w := by exact fun _ _ _ h => h) (hw : Region.wanted oi (yielded ops a.tmps) = true := by rfl) (hv : ∀ w', S w' → (execOp a.eval oi).run P w' = .ok (.value v) w' := by rintro w' ⟨s0, s1, s2⟩; go_simp; with_reducible rfl) (ha : a.put N v = a' := by simp only [Act.put, sA, s0, s1, i64_w, i32_w]; rfl) : wpAnyLast P md ops Q S ds (fuel + 1) l a w := take_ l' hi hN hc hQ (Or.inl ⟨hw, hv⟩) hS ha h
theorem tV4 {P : Program} {ops : Array Oper} {Q : Exit → Act → World → Prop} {md : Region.Mode} {S : World → Prop} {ds : List Nat} {i : Nat} {N : Option Tmp} {oi : Oper} {v : Value} {fuel : Nat} {l : Array Bool} {a : Act} {w : World} {a' : Act} (l' : Array Bool) (hi : ops[i]? = some oi) (hN : oi.dst = N) (hc : takeB md ops ds l l' i = true) (hS : S w) (h : wpAnyLast P md ops Q S ds fuel l' a' w) (hQ : ∀ c a w, Q (.panic c) (a.put oi.dst v) w → Q (.panic c) a w := by exact fun _ _ _ h => h) (hw : Region.wanted oi (yielded ops a.tmps) = true := by rfl) (hv : ∀ w', S w' → (execOp a.eval oi).run P w' = .ok (.value v) w' := by rintro w' ⟨s0, s1, s2, s3⟩; go_simp; with_reducible rfl) (ha : a.put N v = a' := by simp only [Act.put, sA, s0, s1, i64_w, i32_w]; rfl) : wpAnyLast P md ops Q S ds (fuel + 1) l a w := take_ l' hi hN hc hQ (Or.inl ⟨hw, hv⟩) hS ha h
theorem tV5 {P : Program} {ops : Array Oper} {Q : Exit → Act → World → Prop} {md : Region.Mode} {S : World → Prop} {ds : List Nat} {i : Nat} {N : Option Tmp} {oi : Oper} {v : Value} {fuel : Nat} {l : Array Bool} {a : Act} {w : World} {a' : Act} (l' : Array Bool) (hi : ops[i]? = some oi) (hN : oi.dst = N) (hc : takeB md ops ds l l' i = true) (hS : S w) (h : wpAnyLast P md ops Q S ds fuel l' a' w) (hQ : ∀ c a w, Q (.panic c) (a.put oi.dst v) w → Q (.panic c) a w := by exact fun _ _ _ h => h) (hw : Region.wanted oi (yielded ops a.tmps) = true := by rfl) (hv : ∀ w', S w' → (execOp a.eval oi).run P w' = .ok (.value v) w' := by rintro w' ⟨s0, s1, s2, s3, s4⟩; go_simp; with_reducible rfl) (ha : a.put N v = a' := by simp only [Act.put, sA, s0, s1, i64_w, i32_w]; rfl) : wpAnyLast P md ops Q S ds (fuel + 1) l a w := take_ l' hi hN hc hQ (Or.inl ⟨hw, hv⟩) hS ha h
theorem tV6 {P : Program} {ops : Array Oper} {Q : Exit → Act → World → Prop} {md : Region.Mode} {S : World → Prop} {ds : List Nat} {i : Nat} {N : Option Tmp} {oi : Oper} {v : Value} {fuel : Nat} {l : Array Bool} {a : Act} {w : World} {a' : Act} (l' : Array Bool) (hi : ops[i]? = some oi) (hN : oi.dst = N) (hc : takeB md ops ds l l' i = true) (hS : S w) (h : wpAnyLast P md ops Q S ds fuel l' a' w) (hQ : ∀ c a w, Q (.panic c) (a.put oi.dst v) w → Q (.panic c) a w := by exact fun _ _ _ h => h) (hw : Region.wanted oi (yielded ops a.tmps) = true := by rfl) (hv : ∀ w', S w' → (execOp a.eval oi).run P w' = .ok (.value v) w' := by rintro w' ⟨s0, s1, s2, s3, s4, s5⟩; go_simp; with_reducible rfl) (ha : a.put N v = a' := by simp only [Act.put, sA, s0, s1, i64_w, i32_w]; rfl) : wpAnyLast P md ops Q S ds (fuel + 1) l a w := take_ l' hi hN hc hQ (Or.inl ⟨hw, hv⟩) hS ha h
theorem tV7 {P : Program} {ops : Array Oper} {Q : Exit → Act → World → Prop} {md : Region.Mode} {S : World → Prop} {ds : List Nat} {i : Nat} {N : Option Tmp} {oi : Oper} {v : Value} {fuel : Nat} {l : Array Bool} {a : Act} {w : World} {a' : Act} (l' : Array Bool) (hi : ops[i]? = some oi) (hN : oi.dst = N) (hc : takeB md ops ds l l' i = true) (hS : S w) (h : wpAnyLast P md ops Q S ds fuel l' a' w) (hQ : ∀ c a w, Q (.panic c) (a.put oi.dst v) w → Q (.panic c) a w := by exact fun _ _ _ h => h) (hw : Region.wanted oi (yielded ops a.tmps) = true := by rfl) (hv : ∀ w', S w' → (execOp a.eval oi).run P w' = .ok (.value v) w' := by rintro w' ⟨s0, s1, s2, s3, s4, s5, s6⟩; go_simp; with_reducible rfl) (ha : a.put N v = a' := by simp only [Act.put, sA, s0, s1, i64_w, i32_w]; rfl) : wpAnyLast P md ops Q S ds (fuel + 1) l a w := take_ l' hi hN hc hQ (Or.inl ⟨hw, hv⟩) hS ha h
theorem tV8 {P : Program} {ops : Array Oper} {Q : Exit → Act → World → Prop} {md : Region.Mode} {S : World → Prop} {ds : List Nat} {i : Nat} {N : Option Tmp} {oi : Oper} {v : Value} {fuel : Nat} {l : Array Bool} {a : Act} {w : World} {a' : Act} (l' : Array Bool) (hi : ops[i]? = some oi) (hN : oi.dst = N) (hc : takeB md ops ds l l' i = true) (hS : S w) (h : wpAnyLast P md ops Q S ds fuel l' a' w) (hQ : ∀ c a w, Q (.panic c) (a.put oi.dst v) w → Q (.panic c) a w := by exact fun _ _ _ h => h) (hw : Region.wanted oi (yielded ops a.tmps) = true := by rfl) (hv : ∀ w', S w' → (execOp a.eval oi).run P w' = .ok (.value v) w' := by rintro w' ⟨s0, s1, s2, s3, s4, s5, s6, s7⟩; go_simp; with_reducible rfl) (ha : a.put N v = a' := by simp only [Act.put, sA, s0, s1, i64_w, i32_w]; rfl) : wpAnyLast P md ops Q S ds (fuel + 1) l a w := take_ l' hi hN hc hQ (Or.inl ⟨hw, hv⟩) hS ha h
theorem qT {P : Prop} (h : P := by exact any_of HT_.out (by kernel_rfl)) : P := h
abbrev Y : Bool := true
abbrev Z : Bool := false
def errW : Option Int → Value
 | none => .nilIface
 | some c => .iface 0 (.int .i64 c)
theorem errW_none : errW none = .nilIface := rfl
theorem errW_some (c : Int) : errW (some c) = .iface 0 (.int .i64 c) := rfl

theorem info3 : (Try.prog.info? 3).map (fun i => (i.zero, i.size, i.bytes)) = some (some (.int .i64 0), 1, 8) := by kernel_rfl
theorem info4 : (Try.prog.info? 4).map (fun i => (i.zero, i.size, i.bytes)) = some (some (.bool false), 1, 1) := by kernel_rfl
theorem info9 : (Try.prog.info? 9).map (fun i => (i.zero, i.size, i.bytes)) = some (some (.string ⟨#[]⟩), 1, 16) := by kernel_rfl
theorem info112 : (Try.prog.info? 112).map (fun i => (i.zero, i.size, i.bytes)) = some (some (.agg #[(.int .i64 0), (.int .i64 0), (.int .i64 0), (.bool false)]), 4, 32) := by kernel_rfl
-- the values' own types
/-! #### struct type 112 -/
structure S112 where
 f0 : Int
 f1 : Int
 f2 : Int
 f3 : Bool
def z112 : S112 := ⟨(0 : Int), (0 : Int), (0 : Int), false⟩
def k112 : Kd S112 := Kd.iso (Kd.pair (Kd.int .i64) (Kd.pair (Kd.int .i64) (Kd.pair (Kd.int .i64) Kd.bool))) (fun x : S112 => (x.f0, x.f1, x.f2, x.f3))
theorem k112_open {w : World} {x : S112} {cs : List Value} (h : k112.K w x cs) : cs = [.int .i64 x.f0, .int .i64 x.f1, .int .i64 x.f2, .bool x.f3] := by
 obtain ⟨_,_,rfl,rfl,⟨_,_,rfl,rfl,⟨_,_,rfl,rfl,rfl⟩⟩⟩:=h
 exact rfl
theorem k112_openM {w : World} {base : Nat} {ok : Nat → Prop} {x : S112} {cs : List Value} (h : k112.M w base ok x cs) : cs = [.int .i64 x.f0, .int .i64 x.f1, .int .i64 x.f2, .bool x.f3] := by
 obtain ⟨_,_,rfl,rfl,⟨_,_,rfl,rfl,⟨_,_,rfl,rfl,rfl⟩⟩⟩:=h
 exact rfl
theorem k112_mk (w : World) (x : S112)  : k112.K w x [.int .i64 x.f0, .int .i64 x.f1, .int .i64 x.f2, .bool x.f3] := ⟨[.int .i64 x.f0], [.int .i64 x.f1, .int .i64 x.f2, .bool x.f3], rfl, rfl, ⟨[.int .i64 x.f1], [.int .i64 x.f2, .bool x.f3], rfl, rfl, ⟨[.int .i64 x.f2], [.bool x.f3], rfl, rfl, rfl⟩⟩⟩
theorem k112_mkM (w : World) (base : Nat) (ok : Nat → Prop) (x : S112)  : k112.M w base ok x [.int .i64 x.f0, .int .i64 x.f1, .int .i64 x.f2, .bool x.f3] := ⟨[.int .i64 x.f0], [.int .i64 x.f1, .int .i64 x.f2, .bool x.f3], rfl, rfl, ⟨[.int .i64 x.f1], [.int .i64 x.f2, .bool x.f3], rfl, rfl, ⟨[.int .i64 x.f2], [.bool x.f3], rfl, rfl, rfl⟩⟩⟩
def rd_T112 (xs : List S112) (i : Int) : S112 := xs.getD i.toNat z112
theorem at_T112 {w : World} {A : Option Addr} {n : Nat} {xs : List S112} (h : Kd.C k112 w A n xs) (i : Int) (h0 : 0 ≤ i) (h1 : i < n) : ∃ ad , A = some ad ∧ w.cell? (ad.add (i.toNat * 4)) = some (.int .i64 (rd_T112 xs i).f0) ∧ w.cell? ⟨(ad.add (i.toNat * 4)).block, (ad.add (i.toNat * 4)).off + 1, none⟩ = some (.int .i64 (rd_T112 xs i).f1) ∧ w.cell? ⟨(ad.add (i.toNat * 4)).block, (ad.add (i.toNat * 4)).off + 2, none⟩ = some (.int .i64 (rd_T112 xs i).f2) ∧ w.cell? ⟨(ad.add (i.toNat * 4)).block, (ad.add (i.toNat * 4)).off + 3, none⟩ = some (.bool (rd_T112 xs i).f3) := by
 obtain ⟨ad,c,e,_,hK,hc0⟩:=Kd.C_get h z112 i h0 h1
 have hc : ∀ j u,c[j]? = some u → w.cell? (ad.add (i.toNat * 4 + j)) = some u:=hc0
 obtain rfl:=k112_open hK
 exact ⟨ad,e,hc 0 _ rfl,by rw [← add_field _ _ 1 (by omega)];exact hc 1 _ rfl,by rw [← add_field _ _ 2 (by omega)];exact hc 2 _ rfl,by rw [← add_field _ _ 3 (by omega)];exact hc 3 _ rfl⟩

theorem qq1 {P : Prop} (h : P := by (with_reducible repeat (first | refine dN ?_ _ | refine dD ?_ | refine dA ?_ _));refine blk_put (cs:=#[.int .i64 ((rd_T112 l0 x7_1).f0),.int .i64 ((rd_T112 l0 x7_1).f1),.int .i64 ((rd_T112 l0 x7_1).f2),.bool false]) ?_ 3 _ rfl;(with_reducible repeat (first | refine dN ?_ _ | refine dD ?_ | refine dA ?_ _));refine blk_put (cs:=#[.int .i64 ((rd_T112 l0 x7_1).f0),.int .i64 ((rd_T112 l0 x7_1).f1),.int .i64 0,.bool false]) ?_ 2 _ rfl;(with_reducible repeat (first | refine dN ?_ _ | refine dD ?_ | refine dA ?_ _));refine blk_put (cs:=#[.int .i64 ((rd_T112 l0 x7_1).f0),.int .i64 0,.int .i64 0,.bool false]) ?_ 1 _ rfl;(with_reducible repeat (first | refine dN ?_ _ | refine dD ?_ | refine dA ?_ _));refine blk_put (cs:=#[.int .i64 0,.int .i64 0,.int .i64 0,.bool false]) ?_ 0 _ rfl;(with_reducible repeat (first | refine dN ?_ _ | refine dD ?_ | refine dA ?_ _));exact BK457.out) : P := h
theorem qq2 {P : Prop} (h : P := by (with_reducible repeat (first | refine dN ?_ _ | refine dD ?_ | refine dA ?_ _));refine blk_put (cs:=#[.int .i64 t529,.int .i64 t530,.slice Ao29 t531.length co29,.slice none 0 0]) ?_ 3 _ rfl;(with_reducible repeat (first | refine dN ?_ _ | refine dD ?_ | refine dA ?_ _));refine blk_put (cs:=#[.int .i64 t529,.int .i64 t530,.slice none 0 0,.slice none 0 0]) ?_ 2 _ rfl;(with_reducible repeat (first | refine dN ?_ _ | refine dD ?_ | refine dA ?_ _));refine blk_put (cs:=#[.int .i64 t529,.int .i64 0,.slice none 0 0,.slice none 0 0]) ?_ 1 _ rfl;(with_reducible repeat (first | refine dN ?_ _ | refine dD ?_ | refine dA ?_ _));refine blk_put (cs:=#[.int .i64 0,.int .i64 0,.slice none 0 0,.slice none 0 0]) ?_ 0 _ rfl;(with_reducible repeat (first | refine dN ?_ _ | refine dD ?_ | refine dA ?_ _));exact BK538.out) : P := h
theorem qq3 {P : Prop} (h : P := by (with_reducible repeat (first | refine dN ?_ _ | refine dD ?_ | refine dA ?_ _));refine blk_put (cs:=#[.int .i64 t475,.int .i64 t476,.slice Ao10 t477.length co10,.slice none 0 0]) ?_ 3 _ rfl;(with_reducible repeat (first | refine dN ?_ _ | refine dD ?_ | refine dA ?_ _));refine blk_put (cs:=#[.int .i64 t475,.int .i64 t476,.slice none 0 0,.slice none 0 0]) ?_ 2 _ rfl;(with_reducible repeat (first | refine dN ?_ _ | refine dD ?_ | refine dA ?_ _));refine blk_put (cs:=#[.int .i64 t475,.int .i64 0,.slice none 0 0,.slice none 0 0]) ?_ 1 _ rfl;(with_reducible repeat (first | refine dN ?_ _ | refine dD ?_ | refine dA ?_ _));refine blk_put (cs:=#[.int .i64 0,.int .i64 0,.slice none 0 0,.slice none 0 0]) ?_ 0 _ rfl;(with_reducible repeat (first | refine dN ?_ _ | refine dD ?_ | refine dA ?_ _));exact BK483.out) : P := h
theorem qq4 {P : Prop} (h : P := by (with_reducible repeat (first | refine dN ?_ _ | refine dD ?_ | refine dA ?_ _));refine blk_put (cs:=#[.int .i64 t436,.int .i64 t437,.slice Ao10 t438.length co10,.slice none 0 0]) ?_ 3 _ rfl;(with_reducible repeat (first | refine dN ?_ _ | refine dD ?_ | refine dA ?_ _));refine blk_put (cs:=#[.int .i64 t436,.int .i64 t437,.slice none 0 0,.slice none 0 0]) ?_ 2 _ rfl;(with_reducible repeat (first | refine dN ?_ _ | refine dD ?_ | refine dA ?_ _));refine blk_put (cs:=#[.int .i64 t436,.int .i64 0,.slice none 0 0,.slice none 0 0]) ?_ 1 _ rfl;(with_reducible repeat (first | refine dN ?_ _ | refine dD ?_ | refine dA ?_ _));refine blk_put (cs:=#[.int .i64 0,.int .i64 0,.slice none 0 0,.slice none 0 0]) ?_ 0 _ rfl;(with_reducible repeat (first | refine dN ?_ _ | refine dD ?_ | refine dA ?_ _));exact BK444.out) : P := h
theorem qq5 {P : Prop} (h : P := by (with_reducible repeat (first | refine dN ?_ _ | refine dD ?_ | refine dA ?_ _));refine blk_far ?_ NB525_538.out _;(with_reducible repeat (first | refine dN ?_ _ | refine dD ?_ | refine dA ?_ _));refine blk_far ?_ NB525_538.out _;(with_reducible repeat (first | refine dN ?_ _ | refine dD ?_ | refine dA ?_ _));refine blk_far ?_ NB525_538.out _;(with_reducible repeat (first | refine dN ?_ _ | refine dD ?_ | refine dA ?_ _));refine blk_far ?_ NB525_538.out _;(with_reducible repeat (first | refine dN ?_ _ | refine dD ?_ | refine dA ?_ _));exact BK525.out) : P := h
theorem qq6 {P : Prop} (h : P := by (with_reducible repeat (first | refine dN ?_ _ | refine dD ?_ | refine dA ?_ _));refine blk_far ?_ NB474_483.out _;(with_reducible repeat (first | refine dN ?_ _ | refine dD ?_ | refine dA ?_ _));refine blk_far ?_ NB474_483.out _;(with_reducible repeat (first | refine dN ?_ _ | refine dD ?_ | refine dA ?_ _));refine blk_far ?_ NB474_483.out _;(with_reducible repeat (first | refine dN ?_ _ | refine dD ?_ | refine dA ?_ _));refine blk_far ?_ NB474_483.out _;(with_reducible repeat (first | refine dN ?_ _ | refine dD ?_ | refine dA ?_ _));exact BK474.out) : P := h
theorem qq7 {P : Prop} (h : P := by (with_reducible repeat (first | refine dN ?_ _ | refine dD ?_ | refine dA ?_ _));refine blk_far ?_ NB435_444.out _;(with_reducible repeat (first | refine dN ?_ _ | refine dD ?_ | refine dA ?_ _));refine blk_far ?_ NB435_444.out _;(with_reducible repeat (first | refine dN ?_ _ | refine dD ?_ | refine dA ?_ _));refine blk_far ?_ NB435_444.out _;(with_reducible repeat (first | refine dN ?_ _ | refine dD ?_ | refine dA ?_ _));refine blk_far ?_ NB435_444.out _;(with_reducible repeat (first | refine dN ?_ _ | refine dD ?_ | refine dA ?_ _));exact BK435.out) : P := h
theorem qq8 {P : Prop} (h : P := by (with_reducible repeat (first | apply kA | apply kN | apply kD));exact Kd.R_mono (Kd.R_far (p:=⟨gb538,3,none⟩) (Kd.R_far (p:=⟨gb538,2,none⟩) (Kd.R_far (p:=⟨gb538,1,none⟩) (Kd.R_far (p:=⟨gb538,0,none⟩) (Kd.R_types HO_526003.out BK538.out (by decide)) (fun _ hk => hk.2) (.int .i64 t529)) (fun _ hk => hk.2) (.int .i64 t530)) (fun _ hk => hk.2) (.slice Ao29 t531.length co29)) (fun _ hk => hk.2) (.slice Ao30 t534.length co30)) (fun _ hk => hk.1.2)) : P := h
theorem qq9 {P : Prop} (h : P := by (with_reducible repeat (first | apply kA | apply kN | apply kD));exact Kd.R_mono (Kd.R_far (p:=⟨gb538,3,none⟩) (Kd.R_far (p:=⟨gb538,2,none⟩) (Kd.R_far (p:=⟨gb538,1,none⟩) (Kd.R_far (p:=⟨gb538,0,none⟩) (Kd.R_types HO_526002.out BK538.out (by decide)) (fun _ hk => hk.2) (.int .i64 t529)) (fun _ hk => hk.2) (.int .i64 t530)) (fun _ hk => hk.2) (.slice Ao29 t531.length co29)) (fun _ hk => hk.2) (.slice Ao30 t534.length co30)) (fun _ hk => hk.1.2)) : P := h
theorem qq10 {P : Prop} (h : P := by (with_reducible repeat (first | apply kA | apply kN | apply kD));exact Kd.R_mono (Kd.R_far (p:=⟨gb538,3,none⟩) (Kd.R_far (p:=⟨gb538,2,none⟩) (Kd.R_far (p:=⟨gb538,1,none⟩) (Kd.R_far (p:=⟨gb538,0,none⟩) (Kd.R_types HO536.out BK538.out (by decide)) (fun _ hk => hk.2) (.int .i64 t529)) (fun _ hk => hk.2) (.int .i64 t530)) (fun _ hk => hk.2) (.slice Ao29 t531.length co29)) (fun _ hk => hk.2) (.slice Ao30 t534.length co30)) (fun _ hk => hk.1.2)) : P := h
theorem qq11 {P : Prop} (h : P := by (with_reducible repeat (first | apply kA | apply kN | apply kD));exact Kd.R_mono (Kd.R_far (p:=⟨gb538,3,none⟩) (Kd.R_far (p:=⟨gb538,2,none⟩) (Kd.R_far (p:=⟨gb538,1,none⟩) (Kd.R_far (p:=⟨gb538,0,none⟩) (Kd.R_types HO533.out BK538.out (by decide)) (fun _ hk => hk.2) (.int .i64 t529)) (fun _ hk => hk.2) (.int .i64 t530)) (fun _ hk => hk.2) (.slice Ao29 t531.length co29)) (fun _ hk => hk.2) (.slice Ao30 t534.length co30)) (fun _ hk => hk.1.2)) : P := h
theorem qq12 {P : Prop} (h : P := by (with_reducible repeat (first | apply kA | apply kN | apply kD));exact (Kd.R_mono (Kd.R_far (p:=⟨gb525,3,none⟩) (Kd.R_far (p:=⟨gb525,2,none⟩) (Kd.R_far (p:=⟨gb525,1,none⟩) (Kd.R_far (p:=⟨gb525,0,none⟩) (Kd.R_types HO523.out BK525.out (by decide)) (fun _ hk => hk.2) (.int .i64 t516)) (fun _ hk => hk.2) (.int .i64 t517)) (fun _ hk => hk.2) (.slice Ao10 t518.length co10)) (fun _ hk => hk.2) (.slice Ao11 t521.length co11)) (fun _ h_ => h_.1))) : P := h
theorem qq13 {P : Prop} (h : P := by (with_reducible repeat (first | apply kA | apply kN | apply kD));exact (Kd.R_mono (Kd.R_far (p:=⟨gb525,3,none⟩) (Kd.R_far (p:=⟨gb525,2,none⟩) (Kd.R_far (p:=⟨gb525,1,none⟩) (Kd.R_far (p:=⟨gb525,0,none⟩) (Kd.R_types HO520.out BK525.out (by decide)) (fun _ hk => hk.2) (.int .i64 t516)) (fun _ hk => hk.2) (.int .i64 t517)) (fun _ hk => hk.2) (.slice Ao10 t518.length co10)) (fun _ hk => hk.2) (.slice Ao11 t521.length co11)) (fun _ h_ => h_.1))) : P := h
theorem qq14 {P : Prop} (h : P := by repeat (first | (with_reducible first | exact HI0.out | apply IsS141.alloc | apply IsS141.drewN | apply IsS141.drew | apply IsS141.set_1 | apply IsS141.set_2 | refine IsS141.far ?_ NB0_356.out _ | refine IsS141.far ?_ NB0_357.out _ | refine IsS141.far ?_ NB0_365.out _ | refine IsS141.far ?_ NB0_380.out _) | exact HI0.out)) : P := h
theorem qq15 {P : Prop} (h : P := by repeat (first | (with_reducible first | exact HI0.out | apply IsS141.alloc | apply IsS141.drewN | apply IsS141.drew | apply IsS141.set_1 | apply IsS141.set_2 | refine IsS141.far ?_ NB0_277.out _ | refine IsS141.far ?_ NB0_278.out _ | refine IsS141.far ?_ NB0_279.out _ | refine IsS141.far ?_ NB0_296.out _) | exact HI0.out)) : P := h
theorem qq16 {P : Prop} (h : P := by rw [hg];exact (keep_size (w:=w) (g:=g) (row:=none) qq33)) : P := h
theorem qq17 {P : Prop} (h : P := by rw [hg];exact (keep_size (w:=w) (g:=g) (row:=none) qq34)) : P := h
theorem qq18 {P : Prop} (h : P := by repeat (first | (with_reducible first | exact HI0.out | apply IsS141.alloc | apply IsS141.drewN | apply IsS141.drew | apply IsS141.set_1 | apply IsS141.set_2 | refine IsS141.far ?_ NB0_356.out _ | refine IsS141.far ?_ NB0_357.out _ | refine IsS141.far ?_ NB0_365.out _) | exact HI0.out)) : P := h
theorem qq19 {P : Prop} (h : P := by repeat (first | (with_reducible first | exact HI0.out | apply IsS141.alloc | apply IsS141.drewN | apply IsS141.drew | apply IsS141.set_1 | apply IsS141.set_2 | refine IsS141.far ?_ NB0_277.out _ | refine IsS141.far ?_ NB0_278.out _ | refine IsS141.far ?_ NB0_279.out _) | exact HI0.out)) : P := h
theorem qq20 {P : Prop} (h : P := by repeat (first | (with_reducible first | exact HK.out | apply KeepBut.set_ | apply keep_drewN | apply keep_drew | apply keep_alloc | refine keep_far ?_ GW356.out _ | refine keep_far ?_ GW357.out _ | refine keep_far ?_ GW365.out _ | refine keep_far ?_ GW380.out _) | exact HK.out)) : P := h
theorem qq21 {P : Prop} (h : P := by repeat (first | (with_reducible first | exact HK.out | apply KeepBut.set_ | apply keep_drewN | apply keep_drew | apply keep_alloc | refine keep_far ?_ GW277.out _ | refine keep_far ?_ GW278.out _ | refine keep_far ?_ GW279.out _ | refine keep_far ?_ GW296.out _) | exact HK.out)) : P := h
theorem qq22 {P : Prop} (h : P := by repeat (first | (with_reducible first | exact HB.out | apply bA | apply bN | apply bD | refine below_set ?_ (IsS141.ge HI0.out) | refine below_set ?_ GE356.out | refine below_set ?_ GE357.out | refine below_set ?_ GE365.out | refine below_set ?_ GE380.out) | exact HB.out)) : P := h
theorem qq23 {P : Prop} (h : P := by repeat (first | (with_reducible first | exact HB.out | apply bA | apply bN | apply bD | refine below_set ?_ (IsS141.ge HI0.out) | refine below_set ?_ GE277.out | refine below_set ?_ GE278.out | refine below_set ?_ GE279.out | refine below_set ?_ GE296.out) | exact HB.out)) : P := h
theorem qq24 {P : Prop} (h : P := by rw [hg];exact (keep_size (w:=w) (g:=g) (row:=none) qq54)) : P := h
theorem qq25 {P : Prop} (h : P := by rw [hg];exact (keep_size (w:=w) (g:=g) (row:=none) qq57)) : P := h
theorem qq26 {P : Prop} (h : P := by rw [hg];exact Nat.ne_of_lt (IsS141.lt (show IsS141 w0 _ g s0_0 s0_1 s0_2 from by repeat (first | (with_reducible first | exact HI0.out | apply IsS141.alloc | apply IsS141.drewN | apply IsS141.drew | apply IsS141.set_1 | apply IsS141.set_2) | exact HI0.out)))) : P := h
theorem qq27 {P : Prop} (h : P := by rw [hg];exact Nat.ne_of_gt (IsS141.lt (show IsS141 w0 _ g s0_0 s0_1 s0_2 from by repeat (first | (with_reducible first | exact HI0.out | apply IsS141.alloc | apply IsS141.drewN | apply IsS141.drew | apply IsS141.set_1 | apply IsS141.set_2) | exact HI0.out)))) : P := h
theorem qq28 {P : Prop} (h : P := by repeat (first | (with_reducible first | exact HI487.out | apply IsS141.alloc | apply IsS141.drewN | apply IsS141.drew | apply IsS141.set_1 | apply IsS141.set_2 | refine IsS141.far ?_ NB487_474.out _ | refine IsS141.far ?_ NB487_483.out _) | exact HI487.out)) : P := h
theorem qq29 {P : Prop} (h : P := by repeat (first | (with_reducible first | exact HI448.out | apply IsS141.alloc | apply IsS141.drewN | apply IsS141.drew | apply IsS141.set_1 | apply IsS141.set_2 | refine IsS141.far ?_ NB448_435.out _ | refine IsS141.far ?_ NB448_444.out _) | exact HI448.out)) : P := h
theorem qq30 {P : Prop} (h : P := by repeat (first | (with_reducible first | exact HI0.out | apply IsS141.alloc | apply IsS141.drewN | apply IsS141.drew | apply IsS141.set_1 | apply IsS141.set_2 | refine IsS141.far ?_ NB0_356.out _ | refine IsS141.far ?_ NB0_357.out _) | exact HI0.out)) : P := h
theorem qq31 {P : Prop} (h : P := by repeat (first | (with_reducible first | exact HI0.out | apply IsS141.alloc | apply IsS141.drewN | apply IsS141.drew | apply IsS141.set_1 | apply IsS141.set_2 | refine IsS141.far ?_ NB0_328.out _ | refine IsS141.far ?_ NB0_336.out _) | exact HI0.out)) : P := h
theorem qq32 {P : Prop} (h : P := by repeat (first | (with_reducible first | exact HI0.out | apply IsS141.alloc | apply IsS141.drewN | apply IsS141.drew | apply IsS141.set_1 | apply IsS141.set_2 | refine IsS141.far ?_ NB0_310.out _ | refine IsS141.far ?_ NB0_317.out _) | exact HI0.out)) : P := h
theorem qq33 {P : Prop} (h : P := by repeat (first | (with_reducible first | exact HK.out | apply KeepBut.set_ | apply keep_drewN | apply keep_drew | apply keep_alloc | refine keep_far ?_ GW356.out _ | refine keep_far ?_ GW357.out _ | refine keep_far ?_ GW365.out _) | exact HK.out)) : P := h
theorem qq34 {P : Prop} (h : P := by repeat (first | (with_reducible first | exact HK.out | apply KeepBut.set_ | apply keep_drewN | apply keep_drew | apply keep_alloc | refine keep_far ?_ GW277.out _ | refine keep_far ?_ GW278.out _ | refine keep_far ?_ GW279.out _) | exact HK.out)) : P := h
theorem qq35 {P : Prop} (h : P := by repeat (first | (with_reducible first | exact HB.out | apply bA | apply bN | apply bD | refine below_set ?_ (IsS141.ge HI0.out) | refine below_set ?_ GE356.out | refine below_set ?_ GE357.out | refine below_set ?_ GE365.out) | exact HB.out)) : P := h
theorem qq36 {P : Prop} (h : P := by repeat (first | (with_reducible first | exact HB.out | apply bA | apply bN | apply bD | refine below_set ?_ (IsS141.ge HI0.out) | refine below_set ?_ GE277.out | refine below_set ?_ GE278.out | refine below_set ?_ GE279.out) | exact HB.out)) : P := h
theorem qq37 {P : Prop} (h : P := by rw [hg];exact (keep_size (w:=w) (g:=g) (row:=none) qq77)) : P := h
theorem qq38 {P : Prop} (h : P := by rw [hg];exact (keep_size (w:=w) (g:=g) (row:=none) qq78)) : P := h
theorem qq39 {P : Prop} (h : P := by rw [hg];exact (keep_size (w:=w) (g:=g) (row:=none) qq79)) : P := h
theorem qq40 {P : Prop} (h : P := by rw [hg];exact (keep_size (w:=w) (g:=g) (row:=none) qq80)) : P := h
theorem qq41 {P : Prop} (h : P := by rw [hg];exact Nat.ne_of_lt (blk_lt (g:=gb365) (o:=.cells #[.int .i64 t358,.int .i64 t359,.slice Ao15 t360.length co15] 51 (0,0)) qq158)) : P := h
theorem qq42 {P : Prop} (h : P := by rw [hg];exact Nat.ne_of_lt (blk_lt (g:=gb277) (o:=.cells #[.int .i64 a1_0,.int .i64 a1_1,.slice A1_2 l1_2.length c1_2] 51 (0,0)) qq168)) : P := h
theorem qq43 {P : Prop} (h : P := by rw [hg];exact Nat.ne_of_gt (blk_lt (g:=gb365) (o:=.cells #[.int .i64 t358,.int .i64 t359,.slice Ao15 t360.length co15] 51 (0,0)) qq158)) : P := h
theorem qq44 {P : Prop} (h : P := by rw [hg];exact Nat.ne_of_gt (blk_lt (g:=gb277) (o:=.cells #[.int .i64 a1_0,.int .i64 a1_1,.slice A1_2 l1_2.length c1_2] 51 (0,0)) qq168)) : P := h
theorem qq45 {P : Prop} (h : P := by rw [hg];exact Nat.ne_of_lt (blk_lt (g:=gb419) (o:=.cells #[.int .i64 0,.int .i64 0,.slice none 0 0,.slice none 0 0] 27 (0,0)) qq154)) : P := h
theorem qq46 {P : Prop} (h : P := by rw [hg];exact Nat.ne_of_lt (blk_lt (g:=gb357) (o:=.cells #[.int .i64 0,.int .i64 0,.slice none 0 0,.slice none 0 0] 27 (0,0)) qq159)) : P := h
theorem qq47 {P : Prop} (h : P := by rw [hg];exact Nat.ne_of_lt (blk_lt (g:=gb279) (o:=.cells #[.int .i64 0,.int .i64 0,.slice none 0 0,.slice none 0 0] 27 (0,0)) qq166)) : P := h
theorem qq48 {P : Prop} (h : P := by rw [hg];exact Nat.ne_of_gt (blk_lt (g:=gb419) (o:=.cells #[.int .i64 0,.int .i64 0,.slice none 0 0,.slice none 0 0] 27 (0,0)) qq154)) : P := h
theorem qq49 {P : Prop} (h : P := by rw [hg];exact Nat.ne_of_gt (blk_lt (g:=gb357) (o:=.cells #[.int .i64 0,.int .i64 0,.slice none 0 0,.slice none 0 0] 27 (0,0)) qq159)) : P := h
theorem qq50 {P : Prop} (h : P := by rw [hg];exact Nat.ne_of_gt (blk_lt (g:=gb279) (o:=.cells #[.int .i64 0,.int .i64 0,.slice none 0 0,.slice none 0 0] 27 (0,0)) qq166)) : P := h
theorem qq51 {P : Prop} (h : P := by exact (keep_size (w:=w) (g:=g) (row:=none) qq81)) : P := h
theorem qq52 {P : Prop} (h : P := by rw [hg];exact Nat.ne_of_lt (blk_lt (g:=gb356) (o:=.cells #[.int .i64 0,.int .i64 0,.slice none 0 0] 51 (0,0)) qq160)) : P := h
theorem qq53 {P : Prop} (h : P := by rw [hg];exact Nat.ne_of_gt (blk_lt (g:=gb356) (o:=.cells #[.int .i64 0,.int .i64 0,.slice none 0 0] 51 (0,0)) qq160)) : P := h
theorem qq54 {P : Prop} (h : P := by repeat (first | (with_reducible first | exact HK.out | apply KeepBut.set_ | apply keep_drewN | apply keep_drew | apply keep_alloc | refine keep_far ?_ GW356.out _ | refine keep_far ?_ GW357.out _) | exact HK.out)) : P := h
theorem qq55 {P : Prop} (h : P := by repeat (first | (with_reducible first | exact HK.out | apply KeepBut.set_ | apply keep_drewN | apply keep_drew | apply keep_alloc | refine keep_far ?_ GW328.out _ | refine keep_far ?_ GW336.out _) | exact HK.out)) : P := h
theorem qq56 {P : Prop} (h : P := by repeat (first | (with_reducible first | exact HK.out | apply KeepBut.set_ | apply keep_drewN | apply keep_drew | apply keep_alloc | refine keep_far ?_ GW310.out _ | refine keep_far ?_ GW317.out _) | exact HK.out)) : P := h
theorem qq57 {P : Prop} (h : P := by repeat (first | (with_reducible first | exact HK.out | apply KeepBut.set_ | apply keep_drewN | apply keep_drew | apply keep_alloc | refine keep_far ?_ GW277.out _ | refine keep_far ?_ GW278.out _) | exact HK.out)) : P := h
theorem qq58 {P : Prop} (h : P := by repeat (first | (with_reducible first | exact HI0.out | apply IsS141.alloc | apply IsS141.drewN | apply IsS141.drew | apply IsS141.set_1 | apply IsS141.set_2 | refine IsS141.far ?_ NB0_328.out _) | exact HI0.out)) : P := h
theorem qq59 {P : Prop} (h : P := by repeat (first | (with_reducible first | exact HI0.out | apply IsS141.alloc | apply IsS141.drewN | apply IsS141.drew | apply IsS141.set_1 | apply IsS141.set_2 | refine IsS141.far ?_ NB0_310.out _) | exact HI0.out)) : P := h
theorem qq60 {P : Prop} (h : P := by repeat (first | (with_reducible first | exact HI0.out | apply IsS141.alloc | apply IsS141.drewN | apply IsS141.drew | apply IsS141.set_1 | apply IsS141.set_2 | refine IsS141.far ?_ NB0_190.out _) | exact HI0.out)) : P := h
theorem qq61 {P : Prop} (h : P := by repeat (first | (with_reducible first | exact HI0.out | apply IsS141.alloc | apply IsS141.drewN | apply IsS141.drew | apply IsS141.set_1 | apply IsS141.set_2 | refine IsS141.far ?_ NB0_174.out _) | exact HI0.out)) : P := h
theorem qq62 {P : Prop} (h : P := by (with_reducible repeat (first | refine dN ?_ _ | refine dD ?_ | refine dA ?_ _));refine blk_far ?_ NB365_380.out _;(with_reducible repeat (first | refine dN ?_ _ | refine dD ?_ | refine dA ?_ _));exact BK365.out) : P := h
theorem qq63 {P : Prop} (h : P := by (with_reducible repeat (first | refine dN ?_ _ | refine dD ?_ | refine dA ?_ _));refine blk_far ?_ NB357_380.out _;(with_reducible repeat (first | refine dN ?_ _ | refine dD ?_ | refine dA ?_ _));exact BK357.out) : P := h
theorem qq64 {P : Prop} (h : P := by (with_reducible repeat (first | refine dN ?_ _ | refine dD ?_ | refine dA ?_ _));refine blk_far ?_ NB356_380.out _;(with_reducible repeat (first | refine dN ?_ _ | refine dD ?_ | refine dA ?_ _));exact BK356.out) : P := h
theorem qq65 {P : Prop} (h : P := by (with_reducible repeat (first | refine dN ?_ _ | refine dD ?_ | refine dA ?_ _));refine blk_far ?_ NB328_336.out _;(with_reducible repeat (first | refine dN ?_ _ | refine dD ?_ | refine dA ?_ _));exact BK328.out) : P := h
theorem qq66 {P : Prop} (h : P := by repeat (first | (with_reducible first | exact HB.out | apply bA | apply bN | apply bD | refine below_set ?_ (IsS141.ge HI487.out) | refine below_set ?_ GE474.out | refine below_set ?_ GE483.out) | exact HB.out)) : P := h
theorem qq67 {P : Prop} (h : P := by repeat (first | (with_reducible first | exact HB.out | apply bA | apply bN | apply bD | refine below_set ?_ (IsS141.ge HI448.out) | refine below_set ?_ GE435.out | refine below_set ?_ GE444.out) | exact HB.out)) : P := h
theorem qq68 {P : Prop} (h : P := by repeat (first | (with_reducible first | exact HB.out | apply bA | apply bN | apply bD | refine below_set ?_ (IsS141.ge HI403.out) | refine below_set ?_ GE398.out | refine below_set ?_ GE399.out) | exact HB.out)) : P := h
theorem qq69 {P : Prop} (h : P := by repeat (first | (with_reducible first | exact HB.out | apply bA | apply bN | apply bD | refine below_set ?_ (IsS141.ge HI0.out) | refine below_set ?_ GE356.out | refine below_set ?_ GE357.out) | exact HB.out)) : P := h
theorem qq70 {P : Prop} (h : P := by repeat (first | (with_reducible first | exact HB.out | apply bA | apply bN | apply bD | refine below_set ?_ (IsS141.ge HI0.out) | refine below_set ?_ GE328.out | refine below_set ?_ GE336.out) | exact HB.out)) : P := h
theorem qq71 {P : Prop} (h : P := by repeat (first | (with_reducible first | exact HB.out | apply bA | apply bN | apply bD | refine below_set ?_ (IsS141.ge HI0.out) | refine below_set ?_ GE310.out | refine below_set ?_ GE317.out) | exact HB.out)) : P := h
theorem qq72 {P : Prop} (h : P := by rw [hg];exact (keep_size (w:=w) (g:=g) (row:=none) qq112)) : P := h
theorem qq73 {P : Prop} (h : P := by rw [hg];exact Nat.ne_of_lt (blk_lt (g:=gb278) (o:=.cells #[.int .i64 a2_0,.int .i64 a2_1] 37 (0,0)) qq167)) : P := h
theorem qq74 {P : Prop} (h : P := by rw [hg];exact Nat.ne_of_gt (blk_lt (g:=gb278) (o:=.cells #[.int .i64 a2_0,.int .i64 a2_1] 37 (0,0)) qq167)) : P := h
theorem qq75 {P : Prop} (h : P := by rw [hg];exact (below_size qq95)) : P := h
theorem qq76 {P : Prop} (h : P := by have h_ : (t147 : Int) < ((t142.length : Int) : Int):=odt qq223;first | exact h_ | (have e_:=(Kd.R_reads' HO144.out).1;omega) | simpa using h_) : P := h
theorem qq77 {P : Prop} (h : P := by repeat (first | (with_reducible first | exact HK.out | apply KeepBut.set_ | apply keep_drewN | apply keep_drew | apply keep_alloc | refine keep_far ?_ GW356.out _) | exact HK.out)) : P := h
theorem qq78 {P : Prop} (h : P := by repeat (first | (with_reducible first | exact HK.out | apply KeepBut.set_ | apply keep_drewN | apply keep_drew | apply keep_alloc | refine keep_far ?_ GW328.out _) | exact HK.out)) : P := h
theorem qq79 {P : Prop} (h : P := by repeat (first | (with_reducible first | exact HK.out | apply KeepBut.set_ | apply keep_drewN | apply keep_drew | apply keep_alloc | refine keep_far ?_ GW310.out _) | exact HK.out)) : P := h
theorem qq80 {P : Prop} (h : P := by repeat (first | (with_reducible first | exact HK.out | apply KeepBut.set_ | apply keep_drewN | apply keep_drew | apply keep_alloc | refine keep_far ?_ GW277.out _) | exact HK.out)) : P := h
theorem qq81 {P : Prop} (h : P := by repeat (first | (with_reducible first | exact HK.out | apply KeepBut.set_ | apply keep_drewN | apply keep_drew | apply keep_alloc | refine keep_far ?_ GW190.out _) | exact HK.out)) : P := h
theorem qq82 {P : Prop} (h : P := by repeat (first | (with_reducible first | exact HK.out | apply KeepBut.set_ | apply keep_drewN | apply keep_drew | apply keep_alloc | refine keep_far ?_ GW174.out _) | exact HK.out)) : P := h
theorem qq83 {P : Prop} (h : P := by repeat (first | (with_reducible first | exact HI501.out | apply IsS141.alloc | apply IsS141.drewN | apply IsS141.drew | apply IsS141.set_1 | apply IsS141.set_2) | exact HI501.out)) : P := h
theorem qq84 {P : Prop} (h : P := by repeat (first | (with_reducible first | exact HB.out | apply bA | apply bN | apply bD | refine below_set ?_ (IsS141.ge HI0.out) | refine below_set ?_ GE328.out) | exact HB.out)) : P := h
theorem qq85 {P : Prop} (h : P := by repeat (first | (with_reducible first | exact HB.out | apply bA | apply bN | apply bD | refine below_set ?_ (IsS141.ge HI0.out) | refine below_set ?_ GE310.out) | exact HB.out)) : P := h
theorem qq86 {P : Prop} (h : P := by repeat (first | (with_reducible first | exact HB.out | apply bA | apply bN | apply bD | refine below_set ?_ (IsS141.ge HI0.out) | refine below_set ?_ GE190.out) | exact HB.out)) : P := h
theorem qq87 {P : Prop} (h : P := by repeat (first | (with_reducible first | exact HB.out | apply bA | apply bN | apply bD | refine below_set ?_ (IsS141.ge HI0.out) | refine below_set ?_ GE174.out) | exact HB.out)) : P := h
theorem qq88 {P : Prop} (h : P := by repeat (first | (with_reducible first | exact HI0.out | apply IsS141.alloc | apply IsS141.drewN | apply IsS141.drew | apply IsS141.set_1 | apply IsS141.set_2) | exact HI0.out)) : P := h
theorem qq89 {P : Prop} (h : P := by rw [hg];exact (below_size qq120)) : P := h
theorem qq90 {P : Prop} (h : P := by rw [hg];exact (below_size qq123)) : P := h
theorem qq91 {P : Prop} (h : P := by rw [hg];exact (below_size qq126)) : P := h
theorem qq92 {P : Prop} (h : P := by rw [hg];exact (below_size qq127)) : P := h
theorem qq93 {P : Prop} (h : P := by rw [hg];exact (below_size qq128)) : P := h
theorem qq94 {P : Prop} (h : P := by repeat (first | (with_reducible first | exact HB.out | apply bA | apply bN | apply bD | refine below_set ?_ GE525.out | refine below_set ?_ GE538.out) | exact HB.out)) : P := h
theorem qq95 {P : Prop} (h : P := by repeat (first | (with_reducible first | exact HB.out | apply bA | apply bN | apply bD | refine below_set ?_ GE419.out | refine below_set ?_ GE433.out) | exact HB.out)) : P := h
theorem qq96 {P : Prop} (h : P := by first | rfl | (simp [errW_none,errW_some] <;> rfl) | (simp only [← hji53];first | rfl | (simp [errW_none,errW_some] <;> rfl)) | (simp [*,errW_none,errW_some] <;> rfl)) : P := h
theorem qq97 {P : Prop} (h : P := by first | rfl | (simp [errW_none,errW_some] <;> rfl) | (simp only [← hji41];first | rfl | (simp [errW_none,errW_some] <;> rfl)) | (simp [*,errW_none,errW_some] <;> rfl)) : P := h
theorem qq98 {P : Prop} (h : P := by repeat (first | (with_reducible first | exact HB.out | apply bA | apply bN | apply bD | refine below_set ?_ GB12.out | refine below_set ?_ GE239.out) | exact HB.out)) : P := h
theorem qq99 {P : Prop} (h : P := by first | rfl | (simp [errW_none,errW_some] <;> rfl) | (simp only [← hji8];first | rfl | (simp [errW_none,errW_some] <;> rfl)) | (simp [*,errW_none,errW_some] <;> rfl)) : P := h
theorem qq100 {P : Prop} (h : P := by exact (below_size qq131)) : P := h
theorem qq101 {P : Prop} (h : P := by repeat (first | exact (Kd.R_reads' HO_539003.out).2.2 | (with_reducible refine cA ?_ _) | (with_reducible refine cN ?_ _) | (with_reducible refine cD ?_))) : P := h
theorem qq102 {P : Prop} (h : P := by repeat (first | exact (Kd.R_reads' HO_539002.out).2.2 | (with_reducible refine cA ?_ _) | (with_reducible refine cN ?_ _) | (with_reducible refine cD ?_))) : P := h
theorem qq103 {P : Prop} (h : P := by repeat (first | exact (Kd.C_below HR0_3.out HB.out) | (with_reducible refine cA ?_ _) | (with_reducible refine cN ?_ _) | (with_reducible refine cD ?_))) : P := h
theorem qq104 {P : Prop} (h : P := by repeat (first | exact (Kd.C_below HR0_2.out HB.out) | (with_reducible refine cA ?_ _) | (with_reducible refine cN ?_ _) | (with_reducible refine cD ?_))) : P := h
theorem qq105 {P : Prop} (h : P := by repeat (first | exact (Kd.R_reads' HO549.out).2.2 | (with_reducible refine cA ?_ _) | (with_reducible refine cN ?_ _) | (with_reducible refine cD ?_))) : P := h
theorem qq106 {P : Prop} (h : P := by repeat (first | exact (Kd.R_reads' HO536.out).2.2 | (with_reducible refine cA ?_ _) | (with_reducible refine cN ?_ _) | (with_reducible refine cD ?_))) : P := h
theorem qq107 {P : Prop} (h : P := by repeat (first | exact (Kd.R_reads' HO533.out).2.2 | (with_reducible refine cA ?_ _) | (with_reducible refine cN ?_ _) | (with_reducible refine cD ?_))) : P := h
theorem qq108 {P : Prop} (h : P := by repeat (first | exact (Kd.R_reads' HO520.out).2.2 | (with_reducible refine cA ?_ _) | (with_reducible refine cN ?_ _) | (with_reducible refine cD ?_))) : P := h
theorem qq109 {P : Prop} (h : P := by repeat (first | exact (Kd.Q_reads' HO362.out).2.2 | (with_reducible refine cA ?_ _) | (with_reducible refine cN ?_ _) | (with_reducible refine cD ?_))) : P := h
theorem qq110 {P : Prop} (h : P := by repeat (first | exact (Kd.C_below HR0.out HB.out) | (with_reducible refine cA ?_ _) | (with_reducible refine cN ?_ _) | (with_reducible refine cD ?_))) : P := h
theorem qq111 {P : Prop} (h : P := by repeat (first | exact (Kd.R_reads' HO_7.out).2.2 | (with_reducible refine cA ?_ _) | (with_reducible refine cN ?_ _) | (with_reducible refine cD ?_))) : P := h
theorem qq112 {P : Prop} (h : P := by repeat (first | (with_reducible first | exact HK.out | apply KeepBut.set_ | apply keep_drewN | apply keep_drew | apply keep_alloc) | exact HK.out)) : P := h
theorem qq113 {P : Prop} (h : P := by repeat (first | (with_reducible first | exact HB.out | apply bA | apply bN | apply bD | refine below_set ?_ (IsS141.ge HI501.out)) | exact HB.out)) : P := h
theorem qq114 {P : Prop} (h : P := by exact qq131) : P := h
theorem qq115 {P : Prop} (h : P := by repeat (first | (with_reducible first | exact HB.out | apply bA | apply bN | apply bD | refine below_set ?_ (IsS141.ge HI0.out)) | exact HB.out)) : P := h
theorem qq116 {P : Prop} (h : P := by (try simp only [hl5_2]);(try simp only [hl5_3]);(with_reducible repeat (first | refine dN ?_ _ | refine dD ?_ | refine dA ?_ _));exact BK239.out) : P := h
theorem qq117 {P : Prop} (h : P := by first | exact Kd.R_nil _ _ _ _ _ | exact Kd.N_nil _ _ _ _ _ | exact Kd.V_nil _ _ _ _ _ | exact Kd.Q_nil _ _ _ _ _ | exact Kd.S_nil _ _ _ _ _) : P := h
theorem qq118 {P : Prop} (h : P := by rw [hg];exact (below_size qq140)) : P := h
theorem qq119 {P : Prop} (h : P := by rw [hg];exact (below_size qq143)) : P := h
theorem qq120 {P : Prop} (h : P := by repeat (first | (with_reducible first | exact HB.out | apply bA | apply bN | apply bD | refine below_set ?_ GE525.out) | exact HB.out)) : P := h
theorem qq121 {P : Prop} (h : P := by repeat (first | (with_reducible first | exact HB.out | apply bA | apply bN | apply bD | refine below_set ?_ GE496.out) | exact HB.out)) : P := h
theorem qq122 {P : Prop} (h : P := by repeat (first | (with_reducible first | exact HB.out | apply bA | apply bN | apply bD | refine below_set ?_ GE494.out) | exact HB.out)) : P := h
theorem qq123 {P : Prop} (h : P := by repeat (first | (with_reducible first | exact HB.out | apply bA | apply bN | apply bD | refine below_set ?_ GE474.out) | exact HB.out)) : P := h
theorem qq124 {P : Prop} (h : P := by repeat (first | (with_reducible first | exact HB.out | apply bA | apply bN | apply bD | refine below_set ?_ GE469.out) | exact HB.out)) : P := h
theorem qq125 {P : Prop} (h : P := by repeat (first | (with_reducible first | exact HB.out | apply bA | apply bN | apply bD | refine below_set ?_ GE457.out) | exact HB.out)) : P := h
theorem qq126 {P : Prop} (h : P := by repeat (first | (with_reducible first | exact HB.out | apply bA | apply bN | apply bD | refine below_set ?_ GE435.out) | exact HB.out)) : P := h
theorem qq127 {P : Prop} (h : P := by repeat (first | (with_reducible first | exact HB.out | apply bA | apply bN | apply bD | refine below_set ?_ GE419.out) | exact HB.out)) : P := h
theorem qq128 {P : Prop} (h : P := by repeat (first | (with_reducible first | exact HB.out | apply bA | apply bN | apply bD | refine below_set ?_ GE398.out) | exact HB.out)) : P := h
theorem qq129 {P : Prop} (h : P := by repeat (first | (with_reducible first | exact HB.out | apply bA | apply bN | apply bD | refine below_set ?_ GE264.out) | exact HB.out)) : P := h
theorem qq130 {P : Prop} (h : P := by repeat (first | (with_reducible first | exact HB.out | apply bA | apply bN | apply bD | refine below_set ?_ GE239.out) | exact HB.out)) : P := h
theorem qq131 {P : Prop} (h : P := by repeat (first | (with_reducible first | exact HB.out | apply bA | apply bN | apply bD | refine below_set ?_ GE215.out) | exact HB.out)) : P := h
theorem qq132 {P : Prop} (h : P := by repeat (first | (with_reducible first | exact HB.out | apply bA | apply bN | apply bD | refine below_set ?_ GE212.out) | exact HB.out)) : P := h
theorem qq133 {P : Prop} (h : P := by repeat (first | (with_reducible first | exact HB.out | apply bA | apply bN | apply bD | refine below_set ?_ GE209.out) | exact HB.out)) : P := h
theorem qq134 {P : Prop} (h : P := by repeat (first | (with_reducible first | exact HB.out | apply bA | apply bN | apply bD | refine below_set ?_ GE204.out) | exact HB.out)) : P := h
theorem qq135 {P : Prop} (h : P := by repeat (first | (with_reducible first | exact HB.out | apply bA | apply bN | apply bD | refine below_set ?_ GE185.out) | exact HB.out)) : P := h
theorem qq136 {P : Prop} (h : P := by repeat (first | (with_reducible first | exact HB.out | apply bA | apply bN | apply bD | refine below_set ?_ GE181.out) | exact HB.out)) : P := h
theorem qq137 {P : Prop} (h : P := by (try simp only [List.map_toArray,List.map_cons,List.map_nil]);first | done | rfl | (simp only [List.length_drop,List.length_take];rfl)) : P := h
theorem qq138 {P : Prop} (h : P := by repeat (first | exact HR0.out | (with_reducible refine cA ?_ _) | (with_reducible refine cN ?_ _) | (with_reducible refine cD ?_))) : P := h
theorem qq139 {P : Prop} (h : P := by (try simp only [hl5_2]);(try simp only [hl5_3]);(with_reducible repeat (first | apply kA | apply kN | apply kD));exact HO_9.out) : P := h
theorem qq140 {P : Prop} (h : P := by repeat (first | (with_reducible first | exact HBW.out | apply bA | apply bN | apply bD) | exact HBW.out)) : P := h
theorem qq141 {P : Prop} (h : P := by (with_reducible repeat (first | apply Kd.Q_alloc | apply Kd.Q_drewN | apply Kd.Q_drew));exact HO424.out) : P := h
theorem qq142 {P : Prop} (h : P := by (with_reducible repeat (first | apply Kd.Q_alloc | apply Kd.Q_drewN | apply Kd.Q_drew));exact HO362.out) : P := h
theorem qq143 {P : Prop} (h : P := by repeat (first | (with_reducible first | exact HB.out | apply bA | apply bN | apply bD) | exact HB.out)) : P := h
theorem qq144 {P : Prop} (h : P := by (with_reducible repeat (first | refine dN ?_ _ | refine dD ?_ | refine dA ?_ _));exact BK538.out) : P := h
theorem qq145 {P : Prop} (h : P := by (with_reducible repeat (first | refine dN ?_ _ | refine dD ?_ | refine dA ?_ _));exact BK525.out) : P := h
theorem qq146 {P : Prop} (h : P := by (with_reducible repeat (first | refine dN ?_ _ | refine dD ?_ | refine dA ?_ _));exact BK496.out) : P := h
theorem qq147 {P : Prop} (h : P := by (with_reducible repeat (first | refine dN ?_ _ | refine dD ?_ | refine dA ?_ _));exact BK494.out) : P := h
theorem qq148 {P : Prop} (h : P := by (with_reducible repeat (first | refine dN ?_ _ | refine dD ?_ | refine dA ?_ _));exact BK483.out) : P := h
theorem qq149 {P : Prop} (h : P := by (with_reducible repeat (first | refine dN ?_ _ | refine dD ?_ | refine dA ?_ _));exact BK474.out) : P := h
theorem qq150 {P : Prop} (h : P := by (with_reducible repeat (first | refine dN ?_ _ | refine dD ?_ | refine dA ?_ _));exact BK469.out) : P := h
theorem qq151 {P : Prop} (h : P := by (with_reducible repeat (first | refine dN ?_ _ | refine dD ?_ | refine dA ?_ _));exact BK444.out) : P := h
theorem qq152 {P : Prop} (h : P := by (with_reducible repeat (first | refine dN ?_ _ | refine dD ?_ | refine dA ?_ _));exact BK435.out) : P := h
theorem qq153 {P : Prop} (h : P := by (with_reducible repeat (first | refine dN ?_ _ | refine dD ?_ | refine dA ?_ _));exact BK433.out) : P := h
theorem qq154 {P : Prop} (h : P := by (with_reducible repeat (first | refine dN ?_ _ | refine dD ?_ | refine dA ?_ _));exact BK419.out) : P := h
theorem qq155 {P : Prop} (h : P := by (with_reducible repeat (first | refine dN ?_ _ | refine dD ?_ | refine dA ?_ _));exact BK399.out) : P := h
theorem qq156 {P : Prop} (h : P := by (with_reducible repeat (first | refine dN ?_ _ | refine dD ?_ | refine dA ?_ _));exact BK398.out) : P := h
theorem qq157 {P : Prop} (h : P := by (with_reducible repeat (first | refine dN ?_ _ | refine dD ?_ | refine dA ?_ _));exact BK380.out) : P := h
theorem qq158 {P : Prop} (h : P := by (with_reducible repeat (first | refine dN ?_ _ | refine dD ?_ | refine dA ?_ _));exact BK365.out) : P := h
theorem qq159 {P : Prop} (h : P := by (with_reducible repeat (first | refine dN ?_ _ | refine dD ?_ | refine dA ?_ _));exact BK357.out) : P := h
theorem qq160 {P : Prop} (h : P := by (with_reducible repeat (first | refine dN ?_ _ | refine dD ?_ | refine dA ?_ _));exact BK356.out) : P := h
theorem qq161 {P : Prop} (h : P := by (with_reducible repeat (first | refine dN ?_ _ | refine dD ?_ | refine dA ?_ _));exact BK336.out) : P := h
theorem qq162 {P : Prop} (h : P := by (with_reducible repeat (first | refine dN ?_ _ | refine dD ?_ | refine dA ?_ _));exact BK328.out) : P := h
theorem qq163 {P : Prop} (h : P := by (with_reducible repeat (first | refine dN ?_ _ | refine dD ?_ | refine dA ?_ _));exact BK317.out) : P := h
theorem qq164 {P : Prop} (h : P := by (with_reducible repeat (first | refine dN ?_ _ | refine dD ?_ | refine dA ?_ _));exact BK310.out) : P := h
theorem qq165 {P : Prop} (h : P := by (with_reducible repeat (first | refine dN ?_ _ | refine dD ?_ | refine dA ?_ _));exact BK296.out) : P := h
theorem qq166 {P : Prop} (h : P := by (with_reducible repeat (first | refine dN ?_ _ | refine dD ?_ | refine dA ?_ _));exact BK279.out) : P := h
theorem qq167 {P : Prop} (h : P := by (with_reducible repeat (first | refine dN ?_ _ | refine dD ?_ | refine dA ?_ _));exact BK278.out) : P := h
theorem qq168 {P : Prop} (h : P := by (with_reducible repeat (first | refine dN ?_ _ | refine dD ?_ | refine dA ?_ _));exact BK277.out) : P := h
theorem qq169 {P : Prop} (h : P := by (with_reducible repeat (first | refine dN ?_ _ | refine dD ?_ | refine dA ?_ _));exact BK264.out) : P := h
theorem qq170 {P : Prop} (h : P := by (with_reducible repeat (first | refine dN ?_ _ | refine dD ?_ | refine dA ?_ _));exact BK239.out) : P := h
theorem qq171 {P : Prop} (h : P := by (with_reducible repeat (first | refine dN ?_ _ | refine dD ?_ | refine dA ?_ _));exact BK215.out) : P := h
theorem qq172 {P : Prop} (h : P := by (with_reducible repeat (first | refine dN ?_ _ | refine dD ?_ | refine dA ?_ _));exact BK212.out) : P := h
theorem qq173 {P : Prop} (h : P := by (with_reducible repeat (first | refine dN ?_ _ | refine dD ?_ | refine dA ?_ _));exact BK209.out) : P := h
theorem qq174 {P : Prop} (h : P := by (with_reducible repeat (first | refine dN ?_ _ | refine dD ?_ | refine dA ?_ _));exact BK204.out) : P := h
theorem qq175 {P : Prop} (h : P := by (with_reducible repeat (first | refine dN ?_ _ | refine dD ?_ | refine dA ?_ _));exact BK190.out) : P := h
theorem qq176 {P : Prop} (h : P := by (with_reducible repeat (first | refine dN ?_ _ | refine dD ?_ | refine dA ?_ _));exact BK185.out) : P := h
theorem qq177 {P : Prop} (h : P := by (with_reducible repeat (first | refine dN ?_ _ | refine dD ?_ | refine dA ?_ _));exact BK174.out) : P := h
theorem qq178 {P : Prop} (h : P := by have:=HJ2.out;have:=HJ12.out;have:=HJ17.out;have:=HJ25.out;first | omega | exact Nat.le_refl _) : P := h
theorem qq179 {P : Prop} (h : P := by first | (simp only [putAll,Act.put,sA,s0,s1];done) | (simp only [putAll,Act.put,sA,s0,s1];rfl)) : P := h
theorem qq180 {P : Prop} (h : P := by first | rfl | (simp [errW_none,errW_some] <;> rfl) | (simp [*,errW_none,errW_some] <;> rfl)) : P := h
theorem qq181 {P : Prop} (h : P := by exact qq208) : P := h
theorem qq182 {P : Prop} (h : P := by exact qq216) : P := h
theorem qq183 {P : Prop} (h : P := by exact qq217) : P := h
theorem qq184 {P : Prop} (h : P := by (with_reducible repeat (first | apply kA | apply kN | apply kD));exact HO_539003.out) : P := h
theorem qq185 {P : Prop} (h : P := by (with_reducible repeat (first | apply kA | apply kN | apply kD));exact HO_539002.out) : P := h
theorem qq186 {P : Prop} (h : P := by (with_reducible repeat (first | apply kA | apply kN | apply kD));exact HO_526003.out) : P := h
theorem qq187 {P : Prop} (h : P := by (with_reducible repeat (first | apply kA | apply kN | apply kD));exact HO_526002.out) : P := h
theorem qq188 {P : Prop} (h : P := by (with_reducible repeat (first | apply kA | apply kN | apply kD));exact HO_318002.out) : P := h
theorem qq189 {P : Prop} (h : P := by (with_reducible repeat (first | apply kA | apply kN | apply kD));exact HO549.out) : P := h
theorem qq190 {P : Prop} (h : P := by (with_reducible repeat (first | apply kA | apply kN | apply kD));exact HO536.out) : P := h
theorem qq191 {P : Prop} (h : P := by (with_reducible repeat (first | apply kA | apply kN | apply kD));exact HO533.out) : P := h
theorem qq192 {P : Prop} (h : P := by (with_reducible repeat (first | apply kA | apply kN | apply kD));exact HO523.out) : P := h
theorem qq193 {P : Prop} (h : P := by (with_reducible repeat (first | apply kA | apply kN | apply kD));exact HO520.out) : P := h
theorem qq194 {P : Prop} (h : P := by (with_reducible repeat (first | apply kA | apply kN | apply kD));exact HO504.out) : P := h
theorem qq195 {P : Prop} (h : P := by (with_reducible repeat (first | apply kA | apply kN | apply kD));exact HO482.out) : P := h
theorem qq196 {P : Prop} (h : P := by (with_reducible repeat (first | apply kA | apply kN | apply kD));exact HO479.out) : P := h
theorem qq197 {P : Prop} (h : P := by (with_reducible repeat (first | apply kA | apply kN | apply kD));exact HO443.out) : P := h
theorem qq198 {P : Prop} (h : P := by (with_reducible repeat (first | apply kA | apply kN | apply kD));exact HO440.out) : P := h
theorem qq199 {P : Prop} (h : P := by (with_reducible repeat (first | apply kA | apply kN | apply kD));exact HO432.out) : P := h
theorem qq200 {P : Prop} (h : P := by (with_reducible repeat (first | apply kA | apply kN | apply kD));exact HO429.out) : P := h
theorem qq201 {P : Prop} (h : P := by (with_reducible repeat (first | apply kA | apply kN | apply kD));exact HO377.out) : P := h
theorem qq202 {P : Prop} (h : P := by (with_reducible repeat (first | apply kA | apply kN | apply kD));exact HO374.out) : P := h
theorem qq203 {P : Prop} (h : P := by (with_reducible repeat (first | apply kA | apply kN | apply kD));exact HO333.out) : P := h
theorem qq204 {P : Prop} (h : P := by (with_reducible repeat (first | apply kA | apply kN | apply kD));exact HO320.out) : P := h
theorem qq205 {P : Prop} (h : P := by (with_reducible repeat (first | apply kA | apply kN | apply kD));exact HO293.out) : P := h
theorem qq206 {P : Prop} (h : P := by (with_reducible repeat (first | apply kA | apply kN | apply kD));exact HO285.out) : P := h
theorem qq207 {P : Prop} (h : P := by (with_reducible repeat (first | apply kA | apply kN | apply kD));exact HO267.out) : P := h
theorem qq208 {P : Prop} (h : P := by (with_reducible repeat (first | apply kA | apply kN | apply kD));exact HO230.out) : P := h
theorem qq209 {P : Prop} (h : P := by (with_reducible repeat (first | apply kA | apply kN | apply kD));exact HO218.out) : P := h
theorem qq210 {P : Prop} (h : P := by (with_reducible repeat (first | apply kA | apply kN | apply kD));exact HO169.out) : P := h
theorem qq211 {P : Prop} (h : P := by (with_reducible repeat (first | apply kA | apply kN | apply kD));exact HO162.out) : P := h
theorem qq212 {P : Prop} (h : P := by (with_reducible repeat (first | apply kA | apply kN | apply kD));exact HO155.out) : P := h
theorem qq213 {P : Prop} (h : P := by (with_reducible repeat (first | apply kA | apply kN | apply kD));exact HO144.out) : P := h
theorem qq214 {P : Prop} (h : P := by have:=HJ2.out;have:=HJ12.out;have:=HJ17.out;first | omega | exact Nat.le_refl _) : P := h
theorem qq215 {P : Prop} (h : P := by (with_reducible repeat (first | apply kA | apply kN | apply kD));exact HO_8.out) : P := h
theorem qq216 {P : Prop} (h : P := by (with_reducible repeat (first | apply kA | apply kN | apply kD));exact HO_7.out) : P := h
theorem qq217 {P : Prop} (h : P := by (with_reducible repeat (first | apply kA | apply kN | apply kD));exact HO_5.out) : P := h
theorem qq218 {P : Prop} (h : P := by (with_reducible repeat (first | apply kA | apply kN | apply kD));exact HO_3.out) : P := h
theorem qq219 {P : Prop} (h : P := by have:=HJ5.out;have:=HJ23.out;first | omega | exact Nat.le_refl _) : P := h
theorem qq220 {P : Prop} (h : P := by have:=HJ2.out;have:=HJ12.out;first | omega | exact Nat.le_refl _) : P := h
theorem qq221 {P : Prop} (h : P := by exact far_slice (IsS141.own_neQ HI0.out HO362.out (by decide))) : P := h
theorem qq222 {P : Prop} (h : P := by repeat (first | exact Drawn0.refl _ | apply Drawn0.step)) : P := h
theorem qq223 {P : Prop} (h : P := by first | (with_reducible assumption) | assumption) : P := h
theorem qq224 {P : Prop} (h : P := by have:=HK1.out;have:=HK2.out;have:=HK3.out;omega) : P := h
theorem qq225 {P : Prop} (h : P := by first | rfl | (simp;done) | (simp [*];done)) : P := h
theorem qq226 {P : Prop} (h : P := by first | (go_simp;done) | (go_simp;rfl)) : P := h
theorem qq227 {P : Prop} (h : P := by exact (Kd.R_reads' HO_539003.out).2.1) : P := h
theorem qq228 {P : Prop} (h : P := by exact (Kd.R_reads' HO_539002.out).2.1) : P := h
theorem qq229 {P : Prop} (h : P := by simp only [putAll,Act.put,sA,s0,s1]) : P := h
theorem qq230 {P : Prop} (h : P := by first | omega | exact Nat.le_refl _) : P := h
theorem qq231 {P : Prop} (h : P := by exact (Kd.R_reads' HO549.out).2.1) : P := h
theorem qq232 {P : Prop} (h : P := by exact (Kd.R_reads' HO536.out).2.1) : P := h
theorem qq233 {P : Prop} (h : P := by exact (Kd.R_reads' HO533.out).2.1) : P := h
theorem qq234 {P : Prop} (h : P := by exact (Kd.R_reads' HO520.out).2.1) : P := h
theorem qq235 {P : Prop} (h : P := by exact (Kd.Q_reads' HO362.out).2.1) : P := h
theorem qq236 {P : Prop} (h : P := by exact (fun _ _ => trivial)) : P := h
theorem qq237 {P : Prop} (h : P := by have:=LMc39.out;omega) : P := h
theorem qq238 {P : Prop} (h : P := by exact (Reps.none _ _)) : P := h
theorem qq239 {P : Prop} (h : P := by have:=HK1.out;omega) : P := h
theorem qq240 {P : Prop} (h : P := by exact HC0_2.out) : P := h
end Go.Proofs.Ytcbkknpmeknppaa.PFnRations
