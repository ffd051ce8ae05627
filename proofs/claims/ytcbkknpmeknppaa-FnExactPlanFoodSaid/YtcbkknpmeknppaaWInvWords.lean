/- Words of the printed contracts: lines that the kit's printer lays for a claim, those that this seat's texts use (left by a program of this session). Lean checks them. -/
import Derived.Test.YtcbkknpmeknppaaWInv
import Derived.Test.YtcbkknpmeknppaaWFootNe
namespace Go.Proofs.YtcbkknpmeknppaaW.PrintWords
open Go.RowKit
end Go.Proofs.YtcbkknpmeknppaaW.PrintWords
namespace Go.Proofs.YtcbkknpmeknppaaW.PrintLast
section
variable {ops : Array Oper} {a : Act} {o og : Oper} {g : Nat} {t : Tmp} {u : Bool}
end
end Go.Proofs.YtcbkknpmeknppaaW.PrintLast
