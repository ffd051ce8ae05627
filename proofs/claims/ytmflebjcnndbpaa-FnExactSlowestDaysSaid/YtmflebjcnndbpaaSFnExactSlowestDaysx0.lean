/- Contracts of functions that the law FnExactSlowestDays reaches, for its row: lines that the kit's printer wrote for this claim, set shorter by a program of this session (own.py), and what fell in Lean proved anew. Lean checks them. -/
import Derived.Test.YtmflebjcnndbpaaProg
import Derived.Below
import Derived.Deep.Draws
import Derived.Deep.AppendLies
import Derived.Maps.AppendAt
import Derived.OwnWalk
import Derived.Laws.BytesArg
import Derived.Laws.MakeOwn
import Derived.Laws.OwnMore
import Derived.Deep.OwnRows
import Derived.Tactics
import Derived.Lib.ConvBytes
import Derived.Laws.Slices
import Derived.WalkKit
import Derived.KernelRfl
import Derived.RowKit3
import Derived.Deep.LoopGhost
import Derived.Deep.QuietTactic
import Derived.BigQuiet
import Derived.WideLaws
import Derived.Deep.DeepCutAuto
import Derived.Deep.CutBlock
import Derived.Deep.RegionHeld3
import Derived.Laws.Rows
import Derived.Lib.AppendStr
import Derived.ArgAppend
import Derived.Laws.IdiomCopy
import Derived.OrdersHeld
import Derived.Laws.BitsLemmas
import Derived.RowKit
import Derived.Test.YtmflebjcnndbpaaWWords
import Derived.Test.YtmflebjcnndbpaaWLast
import Derived.Test.YtmflebjcnndbpaaWTab
import Derived.Test.YtmflebjcnndbpaaWFour
import Derived.Test.YtmflebjcnndbpaaWQPut
import Derived.Test.YtmflebjcnndbpaaWApart
import Derived.Test.YtmflebjcnndbpaaWArr
import Derived.Test.YtmflebjcnndbpaaWZeros
import Derived.Test.YtmflebjcnndbpaaWFoot
import Derived.Test.YtmflebjcnndbpaaWKept
import Derived.Test.YtmflebjcnndbpaaWShare
import Derived.Test.YtmflebjcnndbpaaWN
import Derived.Test.YtmflebjcnndbpaaWFootNe
import Derived.Test.YtmflebjcnndbpaaWAt
import Derived.Test.YtmflebjcnndbpaaWEqStruct
import Derived.Test.YtmflebjcnndbpaaWRepsOne
import Derived.Test.YtmflebjcnndbpaaWInv
import Derived.Test.YtmflebjcnndbpaaWInvWords
import Derived.Test.YtmflebjcnndbpaaWGuard
import Derived.Test.YtmflebjcnndbpaaWNEv
import Derived.Test.YtmflebjcnndbpaaWMore
namespace Go.Proofs.Ytmflebjcnndbpaa.PFnExactSlowestDays
open Go.RowKit Go.Proofs.YtmflebjcnndbpaaW.PrintWords Go.Proofs.YtmflebjcnndbpaaW.PrintLast Go.Proofs.YtmflebjcnndbpaaW.PrintMore
attribute [local go_sem] max2_int min2_int max_two min_two max_three min_three max_four min_four   -- for this text's walks alone
set_option linter.unusedVariables false
set_option linter.unusedSimpArgs false



abbrev Y : Bool := true
abbrev Z : Bool := false
def errW : Option Int → Value
 | none => .nilIface
 | some c => .iface 0 (.int .i64 c)
theorem errW_none : errW none = .nilIface := rfl
theorem errW_some (c : Int) : errW (some c) = .iface 0 (.int .i64 c) := rfl

theorem info4 : (Try.prog.info? 4).map (fun i => (i.zero, i.size, i.bytes)) = some (some (.bool false), 1, 1) := by kernel_rfl
-- the values' own types

end Go.Proofs.Ytmflebjcnndbpaa.PFnExactSlowestDays
