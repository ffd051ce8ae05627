/- Words of the printed contracts: lines that the kit's printer lays for a claim, those that this seat's texts use (left by a program of this session). Lean checks them. -/
import Derived.Test.YtimpjccgnkbgmaaWWords
import Derived.Laws.StructEq
namespace Go.Proofs.YtimpjccgnkbgmaaW.PrintWords
open Go.RowKit
section
variable {P : Program} {d : Nat} {xs ys : Array Value} {f : Field} {fs : List Field} {a b : Value} {r s : Bool} {w : World}
end
end Go.Proofs.YtimpjccgnkbgmaaW.PrintWords
