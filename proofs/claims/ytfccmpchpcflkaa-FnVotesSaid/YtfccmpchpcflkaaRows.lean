/-
  No cell of these rows narrows 'for every input' (looked for: loops, veiled, ifaces, maps, wideKeys, modest, calm, conditions, laid).
  DERIVED. THE GIVEN ROWS OF THIS SEAT. 11 by the template 'for every input the law returns true; each argument reads behind the call as it read before'; 0 by the template 'total and deterministic' (their statements: YtfccmpchpcflkaaTotals.lean).
  GIVEN WITH THE SEED: the statements are not yours to turn. If you find one false, say at which input.
  Laid BY PROGRAM, IN A SANDBOX (cutbox-rows.mjs): the forced cells as the released guide's own fill.sh prints them over the translation c8760946461d241e… (all of the seat's roots in one cut). By AI agents, Wed Nov 11 2026. No macro, syntax, notation, axiom, sorry.
-/
import Derived.Test.YtfccmpchpcflkaaChecked
import GoSem.Claim
import GoSem.ClaimJoined
import GoSem.ClaimMapViews
import Derived.JoinedTies
import Derived.KernelRfl
namespace Go.Proofs.Ytfccmpchpcflkaa
/- THE CELL 'sum', in the pinned program and in every row, IS THE sha256 OF THE DUMP (.gsa) THAT YtfccmpchpcflkaaProg.lean LOADS. Nothing in Lean hashes anything: it is a label: what it is worth is what the hold of that sum in a sandbox is worth. -/
noncomputable def Try.pinned : Pinned := { name := "ytfccmpchpcflkaa", sum := "c8760946461d241ecfa9a5295ed585bff5c4eb397ad054a9fc9a155074e1951f", checked := Try.checked }
namespace Rows
def none {H : Type} : Left H := { results := [], args := [] }

/-- 'laws.FnExactWatchOf': WHATEVER THE INPUT: true; the input reads as it did. -/
def fnExactWatchOfSpec : ChangeSpec := { name := "fnExactWatchOf", fn := fun _ => fun
  | [d1, d2] => { results := [.lit (.bool true)], args := [d1, d2] }
  | _ => none }
def fnExactWatchOfRow : OpenClaim := { program := "ytfccmpchpcflkaa", sum := "c8760946461d241ecfa9a5295ed585bff5c4eb397ad054a9fc9a155074e1951f", func := "loop.example/g03008/laws.FnExactWatchOf", spec := "fnExactWatchOf", apart := false }
def FnExactWatchOfSaid : Prop := fnExactWatchOfRow.holds Try.pinned (OpenSpec.ofChange fnExactWatchOfSpec)

/-- ITS FALSE NEIGHBOUR: 'it returns false'. Refute it at one input. -/
def fnExactWatchOfWrong : ChangeSpec := { name := "fnExactWatchOf", fn := fun _ => fun
  | [d1, d2] => { results := [.lit (.bool false)], args := [d1, d2] }
  | _ => none }
def FnExactWatchOfWrongFalsely : Prop := fnExactWatchOfRow.holds Try.pinned (OpenSpec.ofChange fnExactWatchOfWrong)

/-- 'laws.FnExactWatchHours': WHATEVER THE INPUT: true; the input reads as it did. -/
def fnExactWatchHoursSpec : ChangeSpec := { name := "fnExactWatchHours", fn := fun _ => fun
  | [d1, d2, d3, d4] => { results := [.lit (.bool true)], args := [d1, d2, d3, d4] }
  | _ => none }
def fnExactWatchHoursRow : OpenClaim := { program := "ytfccmpchpcflkaa", sum := "c8760946461d241ecfa9a5295ed585bff5c4eb397ad054a9fc9a155074e1951f", func := "loop.example/g03008/laws.FnExactWatchHours", spec := "fnExactWatchHours", apart := false }
def FnExactWatchHoursSaid : Prop := fnExactWatchHoursRow.holds Try.pinned (OpenSpec.ofChange fnExactWatchHoursSpec)

/-- ITS FALSE NEIGHBOUR: 'it returns false'. Refute it at one input. -/
def fnExactWatchHoursWrong : ChangeSpec := { name := "fnExactWatchHours", fn := fun _ => fun
  | [d1, d2, d3, d4] => { results := [.lit (.bool false)], args := [d1, d2, d3, d4] }
  | _ => none }
def FnExactWatchHoursWrongFalsely : Prop := fnExactWatchHoursRow.holds Try.pinned (OpenSpec.ofChange fnExactWatchHoursWrong)

/-- 'laws.FnExactSwapWatch': WHATEVER THE INPUT: true; the input reads as it did. -/
def fnExactSwapWatchSpec : ChangeSpec := { name := "fnExactSwapWatch", fn := fun _ => fun
  | [d1, d2, d3] => { results := [.lit (.bool true)], args := [d1, d2, d3] }
  | _ => none }
def fnExactSwapWatchRow : OpenClaim := { program := "ytfccmpchpcflkaa", sum := "c8760946461d241ecfa9a5295ed585bff5c4eb397ad054a9fc9a155074e1951f", func := "loop.example/g03008/laws.FnExactSwapWatch", spec := "fnExactSwapWatch", apart := false }
def FnExactSwapWatchSaid : Prop := fnExactSwapWatchRow.holds Try.pinned (OpenSpec.ofChange fnExactSwapWatchSpec)

/-- ITS FALSE NEIGHBOUR: 'it returns false'. Refute it at one input. -/
def fnExactSwapWatchWrong : ChangeSpec := { name := "fnExactSwapWatch", fn := fun _ => fun
  | [d1, d2, d3] => { results := [.lit (.bool false)], args := [d1, d2, d3] }
  | _ => none }
def FnExactSwapWatchWrongFalsely : Prop := fnExactSwapWatchRow.holds Try.pinned (OpenSpec.ofChange fnExactSwapWatchWrong)

/-- 'laws.FnExactSleepHours': WHATEVER THE INPUT: true; the input reads as it did. -/
def fnExactSleepHoursSpec : ChangeSpec := { name := "fnExactSleepHours", fn := fun _ => fun
  | [d1, d2, d3] => { results := [.lit (.bool true)], args := [d1, d2, d3] }
  | _ => none }
def fnExactSleepHoursRow : OpenClaim := { program := "ytfccmpchpcflkaa", sum := "c8760946461d241ecfa9a5295ed585bff5c4eb397ad054a9fc9a155074e1951f", func := "loop.example/g03008/laws.FnExactSleepHours", spec := "fnExactSleepHours", apart := false }
def FnExactSleepHoursSaid : Prop := fnExactSleepHoursRow.holds Try.pinned (OpenSpec.ofChange fnExactSleepHoursSpec)

/-- ITS FALSE NEIGHBOUR: 'it returns false'. Refute it at one input. -/
def fnExactSleepHoursWrong : ChangeSpec := { name := "fnExactSleepHours", fn := fun _ => fun
  | [d1, d2, d3] => { results := [.lit (.bool false)], args := [d1, d2, d3] }
  | _ => none }
def FnExactSleepHoursWrongFalsely : Prop := fnExactSleepHoursRow.holds Try.pinned (OpenSpec.ofChange fnExactSleepHoursWrong)

/-- 'laws.FnExactFairGap': WHATEVER THE INPUT: true; the input reads as it did. -/
def fnExactFairGapSpec : ChangeSpec := { name := "fnExactFairGap", fn := fun _ => fun
  | [d1, d2, d3] => { results := [.lit (.bool true)], args := [d1, d2, d3] }
  | _ => none }
def fnExactFairGapRow : OpenClaim := { program := "ytfccmpchpcflkaa", sum := "c8760946461d241ecfa9a5295ed585bff5c4eb397ad054a9fc9a155074e1951f", func := "loop.example/g03008/laws.FnExactFairGap", spec := "fnExactFairGap", apart := false }
def FnExactFairGapSaid : Prop := fnExactFairGapRow.holds Try.pinned (OpenSpec.ofChange fnExactFairGapSpec)

/-- ITS FALSE NEIGHBOUR: 'it returns false'. Refute it at one input. -/
def fnExactFairGapWrong : ChangeSpec := { name := "fnExactFairGap", fn := fun _ => fun
  | [d1, d2, d3] => { results := [.lit (.bool false)], args := [d1, d2, d3] }
  | _ => none }
def FnExactFairGapWrongFalsely : Prop := fnExactFairGapRow.holds Try.pinned (OpenSpec.ofChange fnExactFairGapWrong)

/-- 'laws.FnWatches': WHATEVER THE INPUT: true; the input reads as it did. -/
def fnWatchesSpec : ChangeSpec := { name := "fnWatches", fn := fun _ => fun
  | [d] => { results := [.lit (.bool true)], args := [d] }
  | _ => none }
def fnWatchesRow : OpenClaim := { program := "ytfccmpchpcflkaa", sum := "c8760946461d241ecfa9a5295ed585bff5c4eb397ad054a9fc9a155074e1951f", func := "loop.example/g03008/laws.FnWatches", spec := "fnWatches", apart := false }
def FnWatchesSaid : Prop := fnWatchesRow.holds Try.pinned (OpenSpec.ofChange fnWatchesSpec)

/-- ITS FALSE NEIGHBOUR: 'it returns false'. Refute it at one input. -/
def fnWatchesWrong : ChangeSpec := { name := "fnWatches", fn := fun _ => fun
  | [d] => { results := [.lit (.bool false)], args := [d] }
  | _ => none }
def FnWatchesWrongFalsely : Prop := fnWatchesRow.holds Try.pinned (OpenSpec.ofChange fnWatchesWrong)

/-- 'laws.FnExactAreVotes': WHATEVER THE INPUT: true; the input reads as it did. -/
def fnExactAreVotesSpec : ChangeSpec := { name := "fnExactAreVotes", fn := fun _ => fun
  | [d1, d2] => { results := [.lit (.bool true)], args := [d1, d2] }
  | _ => none }
def fnExactAreVotesRow : OpenClaim := { program := "ytfccmpchpcflkaa", sum := "c8760946461d241ecfa9a5295ed585bff5c4eb397ad054a9fc9a155074e1951f", func := "loop.example/g03008/laws.FnExactAreVotes", spec := "fnExactAreVotes", apart := false }
def FnExactAreVotesSaid : Prop := fnExactAreVotesRow.holds Try.pinned (OpenSpec.ofChange fnExactAreVotesSpec)

/-- ITS FALSE NEIGHBOUR: 'it returns false'. Refute it at one input. -/
def fnExactAreVotesWrong : ChangeSpec := { name := "fnExactAreVotes", fn := fun _ => fun
  | [d1, d2] => { results := [.lit (.bool false)], args := [d1, d2] }
  | _ => none }
def FnExactAreVotesWrongFalsely : Prop := fnExactAreVotesRow.holds Try.pinned (OpenSpec.ofChange fnExactAreVotesWrong)

/-- 'laws.FnExactIsMajority': WHATEVER THE INPUT: true; the input reads as it did. -/
def fnExactIsMajoritySpec : ChangeSpec := { name := "fnExactIsMajority", fn := fun _ => fun
  | [d1, d2, d3] => { results := [.lit (.bool true)], args := [d1, d2, d3] }
  | _ => none }
def fnExactIsMajorityRow : OpenClaim := { program := "ytfccmpchpcflkaa", sum := "c8760946461d241ecfa9a5295ed585bff5c4eb397ad054a9fc9a155074e1951f", func := "loop.example/g03008/laws.FnExactIsMajority", spec := "fnExactIsMajority", apart := false }
def FnExactIsMajoritySaid : Prop := fnExactIsMajorityRow.holds Try.pinned (OpenSpec.ofChange fnExactIsMajoritySpec)

/-- ITS FALSE NEIGHBOUR: 'it returns false'. Refute it at one input. -/
def fnExactIsMajorityWrong : ChangeSpec := { name := "fnExactIsMajority", fn := fun _ => fun
  | [d1, d2, d3] => { results := [.lit (.bool false)], args := [d1, d2, d3] }
  | _ => none }
def FnExactIsMajorityWrongFalsely : Prop := fnExactIsMajorityRow.holds Try.pinned (OpenSpec.ofChange fnExactIsMajorityWrong)

/-- 'laws.FnExactOutcome': WHATEVER THE INPUT: true; the input reads as it did. -/
def fnExactOutcomeSpec : ChangeSpec := { name := "fnExactOutcome", fn := fun _ => fun
  | [d1, d2, d3] => { results := [.lit (.bool true)], args := [d1, d2, d3] }
  | _ => none }
def fnExactOutcomeRow : OpenClaim := { program := "ytfccmpchpcflkaa", sum := "c8760946461d241ecfa9a5295ed585bff5c4eb397ad054a9fc9a155074e1951f", func := "loop.example/g03008/laws.FnExactOutcome", spec := "fnExactOutcome", apart := false }
def FnExactOutcomeSaid : Prop := fnExactOutcomeRow.holds Try.pinned (OpenSpec.ofChange fnExactOutcomeSpec)

/-- ITS FALSE NEIGHBOUR: 'it returns false'. Refute it at one input. -/
def fnExactOutcomeWrong : ChangeSpec := { name := "fnExactOutcome", fn := fun _ => fun
  | [d1, d2, d3] => { results := [.lit (.bool false)], args := [d1, d2, d3] }
  | _ => none }
def FnExactOutcomeWrongFalsely : Prop := fnExactOutcomeRow.holds Try.pinned (OpenSpec.ofChange fnExactOutcomeWrong)

/-- 'laws.FnExactAddVote': WHATEVER THE INPUT: true; the input reads as it did. -/
def fnExactAddVoteSpec : ChangeSpec := { name := "fnExactAddVote", fn := fun _ => fun
  | [d1, d2, d3] => { results := [.lit (.bool true)], args := [d1, d2, d3] }
  | _ => none }
def fnExactAddVoteRow : OpenClaim := { program := "ytfccmpchpcflkaa", sum := "c8760946461d241ecfa9a5295ed585bff5c4eb397ad054a9fc9a155074e1951f", func := "loop.example/g03008/laws.FnExactAddVote", spec := "fnExactAddVote", apart := false }
def FnExactAddVoteSaid : Prop := fnExactAddVoteRow.holds Try.pinned (OpenSpec.ofChange fnExactAddVoteSpec)

/-- ITS FALSE NEIGHBOUR: 'it returns false'. Refute it at one input. -/
def fnExactAddVoteWrong : ChangeSpec := { name := "fnExactAddVote", fn := fun _ => fun
  | [d1, d2, d3] => { results := [.lit (.bool false)], args := [d1, d2, d3] }
  | _ => none }
def FnExactAddVoteWrongFalsely : Prop := fnExactAddVoteRow.holds Try.pinned (OpenSpec.ofChange fnExactAddVoteWrong)

/-- 'laws.FnVotes': WHATEVER THE INPUT: true; the input reads as it did. -/
def fnVotesSpec : ChangeSpec := { name := "fnVotes", fn := fun _ => fun
  | [d] => { results := [.lit (.bool true)], args := [d] }
  | _ => none }
def fnVotesRow : OpenClaim := { program := "ytfccmpchpcflkaa", sum := "c8760946461d241ecfa9a5295ed585bff5c4eb397ad054a9fc9a155074e1951f", func := "loop.example/g03008/laws.FnVotes", spec := "fnVotes", apart := false }
def FnVotesSaid : Prop := fnVotesRow.holds Try.pinned (OpenSpec.ofChange fnVotesSpec)

/-- ITS FALSE NEIGHBOUR: 'it returns false'. Refute it at one input. -/
def fnVotesWrong : ChangeSpec := { name := "fnVotes", fn := fun _ => fun
  | [d] => { results := [.lit (.bool false)], args := [d] }
  | _ => none }
def FnVotesWrongFalsely : Prop := fnVotesRow.holds Try.pinned (OpenSpec.ofChange fnVotesWrong)

/- THE SECOND FORM. 'bulk': how many values and letters a reading holds, each counted each time it is reached (what is shared counts as often as it is met; a slice's spare places count too). A statement '..UptoSaid' is the law's where the arguments, and the package variables that the reading takes, are together of bulk at most 1048576: NARROWER than '..Said'. Prove '..Said' where nothing that the law and all that it calls make is longer than what came in: it says more and counts as full. Else prove '..UptoSaid'. A law counts once. -/
mutual
def uptoBulk {H : Type} : DataW H → Nat
  | .lit (.string bytes) => bytes.length + 1
  | .lit _ => 1
  | .nil => 1
  | .ptr d => uptoBulk d + 1
  | .slice elems spare => uptoBulkAll elems + uptoBulkAll spare + 1
  | .agg parts => uptoBulkAll parts + 1
  | .iface _ d => uptoBulk d + 1
  | .map entries => uptoBulkEntries entries + 1
  | .held _ => 1
def uptoBulkAll {H : Type} : List (DataW H) → Nat
  | [] => 0
  | d :: r => uptoBulk d + uptoBulkAll r
def uptoBulkEntries {H : Type} : List (Lit × DataW H) → Nat
  | [] => 0
  | x :: r => uptoBulkEntry x + uptoBulkEntries r
def uptoBulkEntry {H : Type} : Lit × DataW H → Nat
  | (.string bytes, d) => bytes.length + uptoBulk d + 1
  | (_, d) => uptoBulk d + 1
 end
def uptoSmall : (H : Type) → List (DataW H) → Bool := fun _ ds => decide (uptoBulkAll ds ≤ 1048576)
def OpenSpec.upto (s : _root_.Go.ChangeSpec) : _root_.Go.OpenSpec := { _root_.Go.OpenSpec.ofChange s with cond := some uptoSmall }

/-- 'laws.FnExactWatchOf', WHERE WHAT IT READS IS OF BULK AT MOST 1048576: true; the input reads as it did. -/
def fnExactWatchOfUptoRow : OpenClaim := { program := "ytfccmpchpcflkaa", sum := "c8760946461d241ecfa9a5295ed585bff5c4eb397ad054a9fc9a155074e1951f", func := "loop.example/g03008/laws.FnExactWatchOf", spec := "fnExactWatchOf", apart := false, narrowed := true }
def FnExactWatchOfUptoSaid : Prop := fnExactWatchOfUptoRow.holds Try.pinned (OpenSpec.upto fnExactWatchOfSpec)

/-- 'laws.FnExactWatchHours', WHERE WHAT IT READS IS OF BULK AT MOST 1048576: true; the input reads as it did. -/
def fnExactWatchHoursUptoRow : OpenClaim := { program := "ytfccmpchpcflkaa", sum := "c8760946461d241ecfa9a5295ed585bff5c4eb397ad054a9fc9a155074e1951f", func := "loop.example/g03008/laws.FnExactWatchHours", spec := "fnExactWatchHours", apart := false, narrowed := true }
def FnExactWatchHoursUptoSaid : Prop := fnExactWatchHoursUptoRow.holds Try.pinned (OpenSpec.upto fnExactWatchHoursSpec)

/-- 'laws.FnExactSwapWatch', WHERE WHAT IT READS IS OF BULK AT MOST 1048576: true; the input reads as it did. -/
def fnExactSwapWatchUptoRow : OpenClaim := { program := "ytfccmpchpcflkaa", sum := "c8760946461d241ecfa9a5295ed585bff5c4eb397ad054a9fc9a155074e1951f", func := "loop.example/g03008/laws.FnExactSwapWatch", spec := "fnExactSwapWatch", apart := false, narrowed := true }
def FnExactSwapWatchUptoSaid : Prop := fnExactSwapWatchUptoRow.holds Try.pinned (OpenSpec.upto fnExactSwapWatchSpec)

/-- 'laws.FnExactSleepHours', WHERE WHAT IT READS IS OF BULK AT MOST 1048576: true; the input reads as it did. -/
def fnExactSleepHoursUptoRow : OpenClaim := { program := "ytfccmpchpcflkaa", sum := "c8760946461d241ecfa9a5295ed585bff5c4eb397ad054a9fc9a155074e1951f", func := "loop.example/g03008/laws.FnExactSleepHours", spec := "fnExactSleepHours", apart := false, narrowed := true }
def FnExactSleepHoursUptoSaid : Prop := fnExactSleepHoursUptoRow.holds Try.pinned (OpenSpec.upto fnExactSleepHoursSpec)

/-- 'laws.FnExactFairGap', WHERE WHAT IT READS IS OF BULK AT MOST 1048576: true; the input reads as it did. -/
def fnExactFairGapUptoRow : OpenClaim := { program := "ytfccmpchpcflkaa", sum := "c8760946461d241ecfa9a5295ed585bff5c4eb397ad054a9fc9a155074e1951f", func := "loop.example/g03008/laws.FnExactFairGap", spec := "fnExactFairGap", apart := false, narrowed := true }
def FnExactFairGapUptoSaid : Prop := fnExactFairGapUptoRow.holds Try.pinned (OpenSpec.upto fnExactFairGapSpec)

/-- 'laws.FnWatches', WHERE WHAT IT READS IS OF BULK AT MOST 1048576: true; the input reads as it did. -/
def fnWatchesUptoRow : OpenClaim := { program := "ytfccmpchpcflkaa", sum := "c8760946461d241ecfa9a5295ed585bff5c4eb397ad054a9fc9a155074e1951f", func := "loop.example/g03008/laws.FnWatches", spec := "fnWatches", apart := false, narrowed := true }
def FnWatchesUptoSaid : Prop := fnWatchesUptoRow.holds Try.pinned (OpenSpec.upto fnWatchesSpec)

/-- 'laws.FnExactAreVotes', WHERE WHAT IT READS IS OF BULK AT MOST 1048576: true; the input reads as it did. -/
def fnExactAreVotesUptoRow : OpenClaim := { program := "ytfccmpchpcflkaa", sum := "c8760946461d241ecfa9a5295ed585bff5c4eb397ad054a9fc9a155074e1951f", func := "loop.example/g03008/laws.FnExactAreVotes", spec := "fnExactAreVotes", apart := false, narrowed := true }
def FnExactAreVotesUptoSaid : Prop := fnExactAreVotesUptoRow.holds Try.pinned (OpenSpec.upto fnExactAreVotesSpec)

/-- 'laws.FnExactIsMajority', WHERE WHAT IT READS IS OF BULK AT MOST 1048576: true; the input reads as it did. -/
def fnExactIsMajorityUptoRow : OpenClaim := { program := "ytfccmpchpcflkaa", sum := "c8760946461d241ecfa9a5295ed585bff5c4eb397ad054a9fc9a155074e1951f", func := "loop.example/g03008/laws.FnExactIsMajority", spec := "fnExactIsMajority", apart := false, narrowed := true }
def FnExactIsMajorityUptoSaid : Prop := fnExactIsMajorityUptoRow.holds Try.pinned (OpenSpec.upto fnExactIsMajoritySpec)

/-- 'laws.FnExactOutcome', WHERE WHAT IT READS IS OF BULK AT MOST 1048576: true; the input reads as it did. -/
def fnExactOutcomeUptoRow : OpenClaim := { program := "ytfccmpchpcflkaa", sum := "c8760946461d241ecfa9a5295ed585bff5c4eb397ad054a9fc9a155074e1951f", func := "loop.example/g03008/laws.FnExactOutcome", spec := "fnExactOutcome", apart := false, narrowed := true }
def FnExactOutcomeUptoSaid : Prop := fnExactOutcomeUptoRow.holds Try.pinned (OpenSpec.upto fnExactOutcomeSpec)

/-- 'laws.FnExactAddVote', WHERE WHAT IT READS IS OF BULK AT MOST 1048576: true; the input reads as it did. -/
def fnExactAddVoteUptoRow : OpenClaim := { program := "ytfccmpchpcflkaa", sum := "c8760946461d241ecfa9a5295ed585bff5c4eb397ad054a9fc9a155074e1951f", func := "loop.example/g03008/laws.FnExactAddVote", spec := "fnExactAddVote", apart := false, narrowed := true }
def FnExactAddVoteUptoSaid : Prop := fnExactAddVoteUptoRow.holds Try.pinned (OpenSpec.upto fnExactAddVoteSpec)

/-- 'laws.FnVotes', WHERE WHAT IT READS IS OF BULK AT MOST 1048576: true; the input reads as it did. -/
def fnVotesUptoRow : OpenClaim := { program := "ytfccmpchpcflkaa", sum := "c8760946461d241ecfa9a5295ed585bff5c4eb397ad054a9fc9a155074e1951f", func := "loop.example/g03008/laws.FnVotes", spec := "fnVotes", apart := false, narrowed := true }
def FnVotesUptoSaid : Prop := fnVotesUptoRow.holds Try.pinned (OpenSpec.upto fnVotesSpec)

end Rows
end Go.Proofs.Ytfccmpchpcflkaa
