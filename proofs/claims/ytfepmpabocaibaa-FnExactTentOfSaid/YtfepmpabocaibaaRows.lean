/-
  No cell of these rows narrows 'for every input' (looked for: loops, veiled, ifaces, maps, wideKeys, modest, calm, conditions, laid).
  DERIVED. THE GIVEN ROWS OF THIS SEAT. 12 by the template 'for every input the law returns true; each argument reads behind the call as it read before'; 0 by the template 'total and deterministic' (their statements: YtfepmpabocaibaaTotals.lean).
  GIVEN WITH THE SEED: the statements are not yours to turn. If you find one false, say at which input.
  Laid BY PROGRAM, IN A SANDBOX (cutbox-rows.mjs): the forced cells as the released guide's own fill.sh prints them over the translation 0143c2573a0cc7d5… (all of the seat's roots in one cut). By AI agents, Wed Nov 11 2026. No macro, syntax, notation, axiom, sorry.
-/
import Derived.Test.YtfepmpabocaibaaChecked
import GoSem.Claim
import GoSem.ClaimJoined
import GoSem.ClaimMapViews
import Derived.JoinedTies
import Derived.KernelRfl
namespace Go.Proofs.Ytfepmpabocaibaa
/- THE CELL 'sum', in the pinned program and in every row, IS THE sha256 OF THE DUMP (.gsa) THAT YtfepmpabocaibaaProg.lean LOADS. Nothing in Lean hashes anything: it is a label: what it is worth is what the hold of that sum in a sandbox is worth. -/
noncomputable def Try.pinned : Pinned := { name := "ytfepmpabocaibaa", sum := "0143c2573a0cc7d520b56cd973ebc0866d089a599324c3737798ef3b5c55711d", checked := Try.checked }
namespace Rows
def none {H : Type} : Left H := { results := [], args := [] }

/-- 'laws.FnExactLevelName': WHATEVER THE INPUT: true; the input reads as it did. -/
def fnExactLevelNameSpec : ChangeSpec := { name := "fnExactLevelName", fn := fun _ => fun
  | [d] => { results := [.lit (.bool true)], args := [d] }
  | _ => none }
def fnExactLevelNameRow : OpenClaim := { program := "ytfepmpabocaibaa", sum := "0143c2573a0cc7d520b56cd973ebc0866d089a599324c3737798ef3b5c55711d", func := "loop.example/g03008/laws.FnExactLevelName", spec := "fnExactLevelName", apart := false }
def FnExactLevelNameSaid : Prop := fnExactLevelNameRow.holds Try.pinned (OpenSpec.ofChange fnExactLevelNameSpec)

/-- ITS FALSE NEIGHBOUR: 'it returns false'. Refute it at one input. -/
def fnExactLevelNameWrong : ChangeSpec := { name := "fnExactLevelName", fn := fun _ => fun
  | [d] => { results := [.lit (.bool false)], args := [d] }
  | _ => none }
def FnExactLevelNameWrongFalsely : Prop := fnExactLevelNameRow.holds Try.pinned (OpenSpec.ofChange fnExactLevelNameWrong)

/-- 'laws.FnExactCountLong': WHATEVER THE INPUT: true; the input reads as it did. -/
def fnExactCountLongSpec : ChangeSpec := { name := "fnExactCountLong", fn := fun _ => fun
  | [d] => { results := [.lit (.bool true)], args := [d] }
  | _ => none }
def fnExactCountLongRow : OpenClaim := { program := "ytfepmpabocaibaa", sum := "0143c2573a0cc7d520b56cd973ebc0866d089a599324c3737798ef3b5c55711d", func := "loop.example/g03008/laws.FnExactCountLong", spec := "fnExactCountLong", apart := false }
def FnExactCountLongSaid : Prop := fnExactCountLongRow.holds Try.pinned (OpenSpec.ofChange fnExactCountLongSpec)

/-- ITS FALSE NEIGHBOUR: 'it returns false'. Refute it at one input. -/
def fnExactCountLongWrong : ChangeSpec := { name := "fnExactCountLong", fn := fun _ => fun
  | [d] => { results := [.lit (.bool false)], args := [d] }
  | _ => none }
def FnExactCountLongWrongFalsely : Prop := fnExactCountLongRow.holds Try.pinned (OpenSpec.ofChange fnExactCountLongWrong)

/-- 'laws.FnExactSignTime': WHATEVER THE INPUT: true; the input reads as it did. -/
def fnExactSignTimeSpec : ChangeSpec := { name := "fnExactSignTime", fn := fun _ => fun
  | [d] => { results := [.lit (.bool true)], args := [d] }
  | _ => none }
def fnExactSignTimeRow : OpenClaim := { program := "ytfepmpabocaibaa", sum := "0143c2573a0cc7d520b56cd973ebc0866d089a599324c3737798ef3b5c55711d", func := "loop.example/g03008/laws.FnExactSignTime", spec := "fnExactSignTime", apart := false }
def FnExactSignTimeSaid : Prop := fnExactSignTimeRow.holds Try.pinned (OpenSpec.ofChange fnExactSignTimeSpec)

/-- ITS FALSE NEIGHBOUR: 'it returns false'. Refute it at one input. -/
def fnExactSignTimeWrong : ChangeSpec := { name := "fnExactSignTime", fn := fun _ => fun
  | [d] => { results := [.lit (.bool false)], args := [d] }
  | _ => none }
def FnExactSignTimeWrongFalsely : Prop := fnExactSignTimeRow.holds Try.pinned (OpenSpec.ofChange fnExactSignTimeWrong)

/-- 'laws.FnExactCountFor': WHATEVER THE INPUT: true; the input reads as it did. -/
def fnExactCountForSpec : ChangeSpec := { name := "fnExactCountFor", fn := fun _ => fun
  | [d1, d2] => { results := [.lit (.bool true)], args := [d1, d2] }
  | _ => none }
def fnExactCountForRow : OpenClaim := { program := "ytfepmpabocaibaa", sum := "0143c2573a0cc7d520b56cd973ebc0866d089a599324c3737798ef3b5c55711d", func := "loop.example/g03008/laws.FnExactCountFor", spec := "fnExactCountFor", apart := false }
def FnExactCountForSaid : Prop := fnExactCountForRow.holds Try.pinned (OpenSpec.ofChange fnExactCountForSpec)

/-- ITS FALSE NEIGHBOUR: 'it returns false'. Refute it at one input. -/
def fnExactCountForWrong : ChangeSpec := { name := "fnExactCountFor", fn := fun _ => fun
  | [d1, d2] => { results := [.lit (.bool false)], args := [d1, d2] }
  | _ => none }
def FnExactCountForWrongFalsely : Prop := fnExactCountForRow.holds Try.pinned (OpenSpec.ofChange fnExactCountForWrong)

/-- 'laws.FnExactSamePages': WHATEVER THE INPUT: true; the input reads as it did. -/
def fnExactSamePagesSpec : ChangeSpec := { name := "fnExactSamePages", fn := fun _ => fun
  | [d1, d2] => { results := [.lit (.bool true)], args := [d1, d2] }
  | _ => none }
def fnExactSamePagesRow : OpenClaim := { program := "ytfepmpabocaibaa", sum := "0143c2573a0cc7d520b56cd973ebc0866d089a599324c3737798ef3b5c55711d", func := "loop.example/g03008/laws.FnExactSamePages", spec := "fnExactSamePages", apart := false }
def FnExactSamePagesSaid : Prop := fnExactSamePagesRow.holds Try.pinned (OpenSpec.ofChange fnExactSamePagesSpec)

/-- ITS FALSE NEIGHBOUR: 'it returns false'. Refute it at one input. -/
def fnExactSamePagesWrong : ChangeSpec := { name := "fnExactSamePages", fn := fun _ => fun
  | [d1, d2] => { results := [.lit (.bool false)], args := [d1, d2] }
  | _ => none }
def FnExactSamePagesWrongFalsely : Prop := fnExactSamePagesRow.holds Try.pinned (OpenSpec.ofChange fnExactSamePagesWrong)

/-- 'laws.FnExactAreSamples': WHATEVER THE INPUT: true; the input reads as it did. -/
def fnExactAreSamplesSpec : ChangeSpec := { name := "fnExactAreSamples", fn := fun _ => fun
  | [d] => { results := [.lit (.bool true)], args := [d] }
  | _ => none }
def fnExactAreSamplesRow : OpenClaim := { program := "ytfepmpabocaibaa", sum := "0143c2573a0cc7d520b56cd973ebc0866d089a599324c3737798ef3b5c55711d", func := "loop.example/g03008/laws.FnExactAreSamples", spec := "fnExactAreSamples", apart := false }
def FnExactAreSamplesSaid : Prop := fnExactAreSamplesRow.holds Try.pinned (OpenSpec.ofChange fnExactAreSamplesSpec)

/-- ITS FALSE NEIGHBOUR: 'it returns false'. Refute it at one input. -/
def fnExactAreSamplesWrong : ChangeSpec := { name := "fnExactAreSamples", fn := fun _ => fun
  | [d] => { results := [.lit (.bool false)], args := [d] }
  | _ => none }
def FnExactAreSamplesWrongFalsely : Prop := fnExactAreSamplesRow.holds Try.pinned (OpenSpec.ofChange fnExactAreSamplesWrong)

/-- 'laws.FnExactBackPlan': WHATEVER THE INPUT: true; the input reads as it did. -/
def fnExactBackPlanSpec : ChangeSpec := { name := "fnExactBackPlan", fn := fun _ => fun
  | [d1, d2] => { results := [.lit (.bool true)], args := [d1, d2] }
  | _ => none }
def fnExactBackPlanRow : OpenClaim := { program := "ytfepmpabocaibaa", sum := "0143c2573a0cc7d520b56cd973ebc0866d089a599324c3737798ef3b5c55711d", func := "loop.example/g03008/laws.FnExactBackPlan", spec := "fnExactBackPlan", apart := false }
def FnExactBackPlanSaid : Prop := fnExactBackPlanRow.holds Try.pinned (OpenSpec.ofChange fnExactBackPlanSpec)

/-- ITS FALSE NEIGHBOUR: 'it returns false'. Refute it at one input. -/
def fnExactBackPlanWrong : ChangeSpec := { name := "fnExactBackPlan", fn := fun _ => fun
  | [d1, d2] => { results := [.lit (.bool false)], args := [d1, d2] }
  | _ => none }
def FnExactBackPlanWrongFalsely : Prop := fnExactBackPlanRow.holds Try.pinned (OpenSpec.ofChange fnExactBackPlanWrong)

/-- 'laws.FnExactWeightOf': WHATEVER THE INPUT: true; the input reads as it did. -/
def fnExactWeightOfSpec : ChangeSpec := { name := "fnExactWeightOf", fn := fun _ => fun
  | [d1, d2] => { results := [.lit (.bool true)], args := [d1, d2] }
  | _ => none }
def fnExactWeightOfRow : OpenClaim := { program := "ytfepmpabocaibaa", sum := "0143c2573a0cc7d520b56cd973ebc0866d089a599324c3737798ef3b5c55711d", func := "loop.example/g03008/laws.FnExactWeightOf", spec := "fnExactWeightOf", apart := false }
def FnExactWeightOfSaid : Prop := fnExactWeightOfRow.holds Try.pinned (OpenSpec.ofChange fnExactWeightOfSpec)

/-- ITS FALSE NEIGHBOUR: 'it returns false'. Refute it at one input. -/
def fnExactWeightOfWrong : ChangeSpec := { name := "fnExactWeightOf", fn := fun _ => fun
  | [d1, d2] => { results := [.lit (.bool false)], args := [d1, d2] }
  | _ => none }
def FnExactWeightOfWrongFalsely : Prop := fnExactWeightOfRow.holds Try.pinned (OpenSpec.ofChange fnExactWeightOfWrong)

/-- 'laws.FnExactWorthOf': WHATEVER THE INPUT: true; the input reads as it did. -/
def fnExactWorthOfSpec : ChangeSpec := { name := "fnExactWorthOf", fn := fun _ => fun
  | [d1, d2] => { results := [.lit (.bool true)], args := [d1, d2] }
  | _ => none }
def fnExactWorthOfRow : OpenClaim := { program := "ytfepmpabocaibaa", sum := "0143c2573a0cc7d520b56cd973ebc0866d089a599324c3737798ef3b5c55711d", func := "loop.example/g03008/laws.FnExactWorthOf", spec := "fnExactWorthOf", apart := false }
def FnExactWorthOfSaid : Prop := fnExactWorthOfRow.holds Try.pinned (OpenSpec.ofChange fnExactWorthOfSpec)

/-- ITS FALSE NEIGHBOUR: 'it returns false'. Refute it at one input. -/
def fnExactWorthOfWrong : ChangeSpec := { name := "fnExactWorthOf", fn := fun _ => fun
  | [d1, d2] => { results := [.lit (.bool false)], args := [d1, d2] }
  | _ => none }
def FnExactWorthOfWrongFalsely : Prop := fnExactWorthOfRow.holds Try.pinned (OpenSpec.ofChange fnExactWorthOfWrong)

/-- 'laws.FnExactNeedAt': WHATEVER THE INPUT: true; the input reads as it did. -/
def fnExactNeedAtSpec : ChangeSpec := { name := "fnExactNeedAt", fn := fun _ => fun
  | [d1, d2] => { results := [.lit (.bool true)], args := [d1, d2] }
  | _ => none }
def fnExactNeedAtRow : OpenClaim := { program := "ytfepmpabocaibaa", sum := "0143c2573a0cc7d520b56cd973ebc0866d089a599324c3737798ef3b5c55711d", func := "loop.example/g03008/laws.FnExactNeedAt", spec := "fnExactNeedAt", apart := false }
def FnExactNeedAtSaid : Prop := fnExactNeedAtRow.holds Try.pinned (OpenSpec.ofChange fnExactNeedAtSpec)

/-- ITS FALSE NEIGHBOUR: 'it returns false'. Refute it at one input. -/
def fnExactNeedAtWrong : ChangeSpec := { name := "fnExactNeedAt", fn := fun _ => fun
  | [d1, d2] => { results := [.lit (.bool false)], args := [d1, d2] }
  | _ => none }
def FnExactNeedAtWrongFalsely : Prop := fnExactNeedAtRow.holds Try.pinned (OpenSpec.ofChange fnExactNeedAtWrong)

/-- 'laws.FnExactTentOf': WHATEVER THE INPUT: true; the input reads as it did. -/
def fnExactTentOfSpec : ChangeSpec := { name := "fnExactTentOf", fn := fun _ => fun
  | [d1, d2] => { results := [.lit (.bool true)], args := [d1, d2] }
  | _ => none }
def fnExactTentOfRow : OpenClaim := { program := "ytfepmpabocaibaa", sum := "0143c2573a0cc7d520b56cd973ebc0866d089a599324c3737798ef3b5c55711d", func := "loop.example/g03008/laws.FnExactTentOf", spec := "fnExactTentOf", apart := false }
def FnExactTentOfSaid : Prop := fnExactTentOfRow.holds Try.pinned (OpenSpec.ofChange fnExactTentOfSpec)

/-- ITS FALSE NEIGHBOUR: 'it returns false'. Refute it at one input. -/
def fnExactTentOfWrong : ChangeSpec := { name := "fnExactTentOf", fn := fun _ => fun
  | [d1, d2] => { results := [.lit (.bool false)], args := [d1, d2] }
  | _ => none }
def FnExactTentOfWrongFalsely : Prop := fnExactTentOfRow.holds Try.pinned (OpenSpec.ofChange fnExactTentOfWrong)

/-- 'laws.FnExactGreedyLoad': WHATEVER THE INPUT: true; the input reads as it did. -/
def fnExactGreedyLoadSpec : ChangeSpec := { name := "fnExactGreedyLoad", fn := fun _ => fun
  | [d1, d2] => { results := [.lit (.bool true)], args := [d1, d2] }
  | _ => none }
def fnExactGreedyLoadRow : OpenClaim := { program := "ytfepmpabocaibaa", sum := "0143c2573a0cc7d520b56cd973ebc0866d089a599324c3737798ef3b5c55711d", func := "loop.example/g03008/laws.FnExactGreedyLoad", spec := "fnExactGreedyLoad", apart := false }
def FnExactGreedyLoadSaid : Prop := fnExactGreedyLoadRow.holds Try.pinned (OpenSpec.ofChange fnExactGreedyLoadSpec)

/-- ITS FALSE NEIGHBOUR: 'it returns false'. Refute it at one input. -/
def fnExactGreedyLoadWrong : ChangeSpec := { name := "fnExactGreedyLoad", fn := fun _ => fun
  | [d1, d2] => { results := [.lit (.bool false)], args := [d1, d2] }
  | _ => none }
def FnExactGreedyLoadWrongFalsely : Prop := fnExactGreedyLoadRow.holds Try.pinned (OpenSpec.ofChange fnExactGreedyLoadWrong)

/- THE SECOND FORM. 'bulk': how many values and letters a reading holds, each counted each time it is reached (what is shared counts as often as it is met; a slice's spare places count too). A statement '..UptoSaid' is the law's where the arguments, and the package variables that the reading takes, are together of bulk at most 1048576: NARROWER than '..Said'. Prove '..Said' where nothing that the law and all that it calls make is longer than what came in: it says more and counts as full. Else prove '..UptoSaid'. A law counts once. -/
mutual
def uptoBulk {H : Type} : DataW H → Nat
  | .lit (.string bytes) => bytes.length + 1
  | .lit _ => 1
  | .nil => 1
  | .ptr d => uptoBulk d + 1
  | .slice elems spare => uptoBulkAll elems + uptoBulkAll spare + 1
  | .agg parts => uptoBulkAll parts + 1
  | .iface _ d => uptoBulk d + 1
  | .map entries => uptoBulkEntries entries + 1
  | .held _ => 1
def uptoBulkAll {H : Type} : List (DataW H) → Nat
  | [] => 0
  | d :: r => uptoBulk d + uptoBulkAll r
def uptoBulkEntries {H : Type} : List (Lit × DataW H) → Nat
  | [] => 0
  | x :: r => uptoBulkEntry x + uptoBulkEntries r
def uptoBulkEntry {H : Type} : Lit × DataW H → Nat
  | (.string bytes, d) => bytes.length + uptoBulk d + 1
  | (_, d) => uptoBulk d + 1
 end
def uptoSmall : (H : Type) → List (DataW H) → Bool := fun _ ds => decide (uptoBulkAll ds ≤ 1048576)
def OpenSpec.upto (s : _root_.Go.ChangeSpec) : _root_.Go.OpenSpec := { _root_.Go.OpenSpec.ofChange s with cond := some uptoSmall }

/-- 'laws.FnExactLevelName', WHERE WHAT IT READS IS OF BULK AT MOST 1048576: true; the input reads as it did. -/
def fnExactLevelNameUptoRow : OpenClaim := { program := "ytfepmpabocaibaa", sum := "0143c2573a0cc7d520b56cd973ebc0866d089a599324c3737798ef3b5c55711d", func := "loop.example/g03008/laws.FnExactLevelName", spec := "fnExactLevelName", apart := false, narrowed := true }
def FnExactLevelNameUptoSaid : Prop := fnExactLevelNameUptoRow.holds Try.pinned (OpenSpec.upto fnExactLevelNameSpec)

/-- 'laws.FnExactCountLong', WHERE WHAT IT READS IS OF BULK AT MOST 1048576: true; the input reads as it did. -/
def fnExactCountLongUptoRow : OpenClaim := { program := "ytfepmpabocaibaa", sum := "0143c2573a0cc7d520b56cd973ebc0866d089a599324c3737798ef3b5c55711d", func := "loop.example/g03008/laws.FnExactCountLong", spec := "fnExactCountLong", apart := false, narrowed := true }
def FnExactCountLongUptoSaid : Prop := fnExactCountLongUptoRow.holds Try.pinned (OpenSpec.upto fnExactCountLongSpec)

/-- 'laws.FnExactSignTime', WHERE WHAT IT READS IS OF BULK AT MOST 1048576: true; the input reads as it did. -/
def fnExactSignTimeUptoRow : OpenClaim := { program := "ytfepmpabocaibaa", sum := "0143c2573a0cc7d520b56cd973ebc0866d089a599324c3737798ef3b5c55711d", func := "loop.example/g03008/laws.FnExactSignTime", spec := "fnExactSignTime", apart := false, narrowed := true }
def FnExactSignTimeUptoSaid : Prop := fnExactSignTimeUptoRow.holds Try.pinned (OpenSpec.upto fnExactSignTimeSpec)

/-- 'laws.FnExactCountFor', WHERE WHAT IT READS IS OF BULK AT MOST 1048576: true; the input reads as it did. -/
def fnExactCountForUptoRow : OpenClaim := { program := "ytfepmpabocaibaa", sum := "0143c2573a0cc7d520b56cd973ebc0866d089a599324c3737798ef3b5c55711d", func := "loop.example/g03008/laws.FnExactCountFor", spec := "fnExactCountFor", apart := false, narrowed := true }
def FnExactCountForUptoSaid : Prop := fnExactCountForUptoRow.holds Try.pinned (OpenSpec.upto fnExactCountForSpec)

/-- 'laws.FnExactSamePages', WHERE WHAT IT READS IS OF BULK AT MOST 1048576: true; the input reads as it did. -/
def fnExactSamePagesUptoRow : OpenClaim := { program := "ytfepmpabocaibaa", sum := "0143c2573a0cc7d520b56cd973ebc0866d089a599324c3737798ef3b5c55711d", func := "loop.example/g03008/laws.FnExactSamePages", spec := "fnExactSamePages", apart := false, narrowed := true }
def FnExactSamePagesUptoSaid : Prop := fnExactSamePagesUptoRow.holds Try.pinned (OpenSpec.upto fnExactSamePagesSpec)

/-- 'laws.FnExactAreSamples', WHERE WHAT IT READS IS OF BULK AT MOST 1048576: true; the input reads as it did. -/
def fnExactAreSamplesUptoRow : OpenClaim := { program := "ytfepmpabocaibaa", sum := "0143c2573a0cc7d520b56cd973ebc0866d089a599324c3737798ef3b5c55711d", func := "loop.example/g03008/laws.FnExactAreSamples", spec := "fnExactAreSamples", apart := false, narrowed := true }
def FnExactAreSamplesUptoSaid : Prop := fnExactAreSamplesUptoRow.holds Try.pinned (OpenSpec.upto fnExactAreSamplesSpec)

/-- 'laws.FnExactBackPlan', WHERE WHAT IT READS IS OF BULK AT MOST 1048576: true; the input reads as it did. -/
def fnExactBackPlanUptoRow : OpenClaim := { program := "ytfepmpabocaibaa", sum := "0143c2573a0cc7d520b56cd973ebc0866d089a599324c3737798ef3b5c55711d", func := "loop.example/g03008/laws.FnExactBackPlan", spec := "fnExactBackPlan", apart := false, narrowed := true }
def FnExactBackPlanUptoSaid : Prop := fnExactBackPlanUptoRow.holds Try.pinned (OpenSpec.upto fnExactBackPlanSpec)

/-- 'laws.FnExactWeightOf', WHERE WHAT IT READS IS OF BULK AT MOST 1048576: true; the input reads as it did. -/
def fnExactWeightOfUptoRow : OpenClaim := { program := "ytfepmpabocaibaa", sum := "0143c2573a0cc7d520b56cd973ebc0866d089a599324c3737798ef3b5c55711d", func := "loop.example/g03008/laws.FnExactWeightOf", spec := "fnExactWeightOf", apart := false, narrowed := true }
def FnExactWeightOfUptoSaid : Prop := fnExactWeightOfUptoRow.holds Try.pinned (OpenSpec.upto fnExactWeightOfSpec)

/-- 'laws.FnExactWorthOf', WHERE WHAT IT READS IS OF BULK AT MOST 1048576: true; the input reads as it did. -/
def fnExactWorthOfUptoRow : OpenClaim := { program := "ytfepmpabocaibaa", sum := "0143c2573a0cc7d520b56cd973ebc0866d089a599324c3737798ef3b5c55711d", func := "loop.example/g03008/laws.FnExactWorthOf", spec := "fnExactWorthOf", apart := false, narrowed := true }
def FnExactWorthOfUptoSaid : Prop := fnExactWorthOfUptoRow.holds Try.pinned (OpenSpec.upto fnExactWorthOfSpec)

/-- 'laws.FnExactNeedAt', WHERE WHAT IT READS IS OF BULK AT MOST 1048576: true; the input reads as it did. -/
def fnExactNeedAtUptoRow : OpenClaim := { program := "ytfepmpabocaibaa", sum := "0143c2573a0cc7d520b56cd973ebc0866d089a599324c3737798ef3b5c55711d", func := "loop.example/g03008/laws.FnExactNeedAt", spec := "fnExactNeedAt", apart := false, narrowed := true }
def FnExactNeedAtUptoSaid : Prop := fnExactNeedAtUptoRow.holds Try.pinned (OpenSpec.upto fnExactNeedAtSpec)

/-- 'laws.FnExactTentOf', WHERE WHAT IT READS IS OF BULK AT MOST 1048576: true; the input reads as it did. -/
def fnExactTentOfUptoRow : OpenClaim := { program := "ytfepmpabocaibaa", sum := "0143c2573a0cc7d520b56cd973ebc0866d089a599324c3737798ef3b5c55711d", func := "loop.example/g03008/laws.FnExactTentOf", spec := "fnExactTentOf", apart := false, narrowed := true }
def FnExactTentOfUptoSaid : Prop := fnExactTentOfUptoRow.holds Try.pinned (OpenSpec.upto fnExactTentOfSpec)

/-- 'laws.FnExactGreedyLoad', WHERE WHAT IT READS IS OF BULK AT MOST 1048576: true; the input reads as it did. -/
def fnExactGreedyLoadUptoRow : OpenClaim := { program := "ytfepmpabocaibaa", sum := "0143c2573a0cc7d520b56cd973ebc0866d089a599324c3737798ef3b5c55711d", func := "loop.example/g03008/laws.FnExactGreedyLoad", spec := "fnExactGreedyLoad", apart := false, narrowed := true }
def FnExactGreedyLoadUptoSaid : Prop := fnExactGreedyLoadUptoRow.holds Try.pinned (OpenSpec.upto fnExactGreedyLoadSpec)

end Rows
end Go.Proofs.Ytfepmpabocaibaa
