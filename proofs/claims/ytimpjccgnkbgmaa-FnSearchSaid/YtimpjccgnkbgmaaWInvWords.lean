/- Words of the printed contracts: lines that the kit's printer lays for a claim, those that this seat's texts use (left by a program of this session). Lean checks them. -/
import Derived.Test.YtimpjccgnkbgmaaWInv
import Derived.Test.YtimpjccgnkbgmaaWFootNe
namespace Go.Proofs.YtimpjccgnkbgmaaW.PrintWords
open Go.RowKit
end Go.Proofs.YtimpjccgnkbgmaaW.PrintWords
namespace Go.Proofs.YtimpjccgnkbgmaaW.PrintLast
section
variable {ops : Array Oper} {a : Act} {o og : Oper} {g : Nat} {t : Tmp} {u : Bool}
end
end Go.Proofs.YtimpjccgnkbgmaaW.PrintLast
