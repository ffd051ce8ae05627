/- Words of the printed contracts: lines that the kit's printer lays for a claim, those that this seat's texts use (left by a program of this session). Lean checks them. -/
import Derived.Test.YtimpjccgnkbgmaaWWords
import Derived.Test.YtimpjccgnkbgmaaWLast
namespace Go.Proofs.YtimpjccgnkbgmaaW.PrintWords
open Go.RowKit
namespace Kd
section
variable {α : Type} {d : Kd α} {e base g o n cap : Nat} {ok okp : Nat → Prop} {w W : World} {v : Value} {xs : List α}
end
section
variable {α : Type} {enc : α → Value} {h1 : ∀ x, (enc x).oneCell' = true} {e base g o n cap : Nat} {ok : Nat → Prop} {W : World} {xs : List α}
end
end Kd
end Go.Proofs.YtimpjccgnkbgmaaW.PrintWords
