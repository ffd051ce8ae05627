/- Words of the printed contracts: lines that the kit's printer lays for a claim, those that this seat's texts use (left by a program of this session). Lean checks them. -/
import Derived.Test.YtimpjccgnkbgmaaWN
namespace Go.Proofs.YtimpjccgnkbgmaaW.PrintWords
open Go.RowKit
namespace Kd
section
variable {α : Type} {d : Kd α} {W : World} {g n : Nat} {S ok : Nat → Prop} {A : Option Addr} {ad : Addr} {xs : List α}
end
end Kd
end Go.Proofs.YtimpjccgnkbgmaaW.PrintWords
