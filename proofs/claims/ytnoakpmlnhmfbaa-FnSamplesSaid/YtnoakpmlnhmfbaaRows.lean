/-
  No cell of these rows narrows 'for every input' (looked for: loops, veiled, ifaces, maps, wideKeys, modest, calm, conditions, laid).
  DERIVED. THE GIVEN ROWS OF THIS SEAT. 7 by the template 'for every input the law returns true; each argument reads behind the call as it read before'; 0 by the template 'total and deterministic' (their statements: YtnoakpmlnhmfbaaTotals.lean).
  GIVEN WITH THE SEED: the statements are not yours to turn. If you find one false, say at which input.
  Laid BY PROGRAM, IN A SANDBOX (cutbox-rows.mjs): the forced cells as the released guide's own fill.sh prints them over the translation 8515369128c89318… (all of the seat's roots in one cut). By AI agents, Wed Nov 11 2026. No macro, syntax, notation, axiom, sorry.
-/
import Derived.Test.YtnoakpmlnhmfbaaChecked
import GoSem.Claim
import GoSem.ClaimJoined
import GoSem.ClaimMapViews
import Derived.JoinedTies
import Derived.KernelRfl
namespace Go.Proofs.Ytnoakpmlnhmfbaa
/- THE CELL 'sum', in the pinned program and in every row, IS THE sha256 OF THE DUMP (.gsa) THAT YtnoakpmlnhmfbaaProg.lean LOADS. Nothing in Lean hashes anything: it is a label: what it is worth is what the hold of that sum in a sandbox is worth. -/
noncomputable def Try.pinned : Pinned := { name := "ytnoakpmlnhmfbaa", sum := "8515369128c893180ff91be4275296a202fbf73f543cc7f2424cc54ed3ac39ce", checked := Try.checked }
namespace Rows
def none {H : Type} : Left H := { results := [], args := [] }

/-- 'laws.FnExactBestLoad': WHATEVER THE INPUT: true; the input reads as it did. -/
def fnExactBestLoadSpec : ChangeSpec := { name := "fnExactBestLoad", fn := fun _ => fun
  | [d1, d2] => { results := [.lit (.bool true)], args := [d1, d2] }
  | _ => none }
def fnExactBestLoadRow : OpenClaim := { program := "ytnoakpmlnhmfbaa", sum := "8515369128c893180ff91be4275296a202fbf73f543cc7f2424cc54ed3ac39ce", func := "loop.example/g03008/laws.FnExactBestLoad", spec := "fnExactBestLoad", apart := false }
def FnExactBestLoadSaid : Prop := fnExactBestLoadRow.holds Try.pinned (OpenSpec.ofChange fnExactBestLoadSpec)

/-- ITS FALSE NEIGHBOUR: 'it returns false'. Refute it at one input. -/
def fnExactBestLoadWrong : ChangeSpec := { name := "fnExactBestLoad", fn := fun _ => fun
  | [d1, d2] => { results := [.lit (.bool false)], args := [d1, d2] }
  | _ => none }
def FnExactBestLoadWrongFalsely : Prop := fnExactBestLoadRow.holds Try.pinned (OpenSpec.ofChange fnExactBestLoadWrong)

/-- 'laws.FnExactBestWorth': WHATEVER THE INPUT: true; the input reads as it did. -/
def fnExactBestWorthSpec : ChangeSpec := { name := "fnExactBestWorth", fn := fun _ => fun
  | [d1, d2] => { results := [.lit (.bool true)], args := [d1, d2] }
  | _ => none }
def fnExactBestWorthRow : OpenClaim := { program := "ytnoakpmlnhmfbaa", sum := "8515369128c893180ff91be4275296a202fbf73f543cc7f2424cc54ed3ac39ce", func := "loop.example/g03008/laws.FnExactBestWorth", spec := "fnExactBestWorth", apart := false }
def FnExactBestWorthSaid : Prop := fnExactBestWorthRow.holds Try.pinned (OpenSpec.ofChange fnExactBestWorthSpec)

/-- ITS FALSE NEIGHBOUR: 'it returns false'. Refute it at one input. -/
def fnExactBestWorthWrong : ChangeSpec := { name := "fnExactBestWorth", fn := fun _ => fun
  | [d1, d2] => { results := [.lit (.bool false)], args := [d1, d2] }
  | _ => none }
def FnExactBestWorthWrongFalsely : Prop := fnExactBestWorthRow.holds Try.pinned (OpenSpec.ofChange fnExactBestWorthWrong)

/-- 'laws.FnSamples': WHATEVER THE INPUT: true; the input reads as it did. -/
def fnSamplesSpec : ChangeSpec := { name := "fnSamples", fn := fun _ => fun
  | [d] => { results := [.lit (.bool true)], args := [d] }
  | _ => none }
def fnSamplesRow : OpenClaim := { program := "ytnoakpmlnhmfbaa", sum := "8515369128c893180ff91be4275296a202fbf73f543cc7f2424cc54ed3ac39ce", func := "loop.example/g03008/laws.FnSamples", spec := "fnSamples", apart := false }
def FnSamplesSaid : Prop := fnSamplesRow.holds Try.pinned (OpenSpec.ofChange fnSamplesSpec)

/-- ITS FALSE NEIGHBOUR: 'it returns false'. Refute it at one input. -/
def fnSamplesWrong : ChangeSpec := { name := "fnSamples", fn := fun _ => fun
  | [d] => { results := [.lit (.bool false)], args := [d] }
  | _ => none }
def FnSamplesWrongFalsely : Prop := fnSamplesRow.holds Try.pinned (OpenSpec.ofChange fnSamplesWrong)

/-- 'laws.FnExactLastsDays': WHATEVER THE INPUT: true; the input reads as it did. -/
def fnExactLastsDaysSpec : ChangeSpec := { name := "fnExactLastsDays", fn := fun _ => fun
  | [d1, d2] => { results := [.lit (.bool true)], args := [d1, d2] }
  | _ => none }
def fnExactLastsDaysRow : OpenClaim := { program := "ytnoakpmlnhmfbaa", sum := "8515369128c893180ff91be4275296a202fbf73f543cc7f2424cc54ed3ac39ce", func := "loop.example/g03008/laws.FnExactLastsDays", spec := "fnExactLastsDays", apart := false }
def FnExactLastsDaysSaid : Prop := fnExactLastsDaysRow.holds Try.pinned (OpenSpec.ofChange fnExactLastsDaysSpec)

/-- ITS FALSE NEIGHBOUR: 'it returns false'. Refute it at one input. -/
def fnExactLastsDaysWrong : ChangeSpec := { name := "fnExactLastsDays", fn := fun _ => fun
  | [d1, d2] => { results := [.lit (.bool false)], args := [d1, d2] }
  | _ => none }
def FnExactLastsDaysWrongFalsely : Prop := fnExactLastsDaysRow.holds Try.pinned (OpenSpec.ofChange fnExactLastsDaysWrong)

/-- 'laws.FnExactMixedDays': WHATEVER THE INPUT: true; the input reads as it did. -/
def fnExactMixedDaysSpec : ChangeSpec := { name := "fnExactMixedDays", fn := fun _ => fun
  | [d1, d2] => { results := [.lit (.bool true)], args := [d1, d2] }
  | _ => none }
def fnExactMixedDaysRow : OpenClaim := { program := "ytnoakpmlnhmfbaa", sum := "8515369128c893180ff91be4275296a202fbf73f543cc7f2424cc54ed3ac39ce", func := "loop.example/g03008/laws.FnExactMixedDays", spec := "fnExactMixedDays", apart := false }
def FnExactMixedDaysSaid : Prop := fnExactMixedDaysRow.holds Try.pinned (OpenSpec.ofChange fnExactMixedDaysSpec)

/-- ITS FALSE NEIGHBOUR: 'it returns false'. Refute it at one input. -/
def fnExactMixedDaysWrong : ChangeSpec := { name := "fnExactMixedDays", fn := fun _ => fun
  | [d1, d2] => { results := [.lit (.bool false)], args := [d1, d2] }
  | _ => none }
def FnExactMixedDaysWrongFalsely : Prop := fnExactMixedDaysRow.holds Try.pinned (OpenSpec.ofChange fnExactMixedDaysWrong)

/-- 'laws.FnExactLevelFor': WHATEVER THE INPUT: true; the input reads as it did. -/
def fnExactLevelForSpec : ChangeSpec := { name := "fnExactLevelFor", fn := fun _ => fun
  | [d1, d2] => { results := [.lit (.bool true)], args := [d1, d2] }
  | _ => none }
def fnExactLevelForRow : OpenClaim := { program := "ytnoakpmlnhmfbaa", sum := "8515369128c893180ff91be4275296a202fbf73f543cc7f2424cc54ed3ac39ce", func := "loop.example/g03008/laws.FnExactLevelFor", spec := "fnExactLevelFor", apart := false }
def FnExactLevelForSaid : Prop := fnExactLevelForRow.holds Try.pinned (OpenSpec.ofChange fnExactLevelForSpec)

/-- ITS FALSE NEIGHBOUR: 'it returns false'. Refute it at one input. -/
def fnExactLevelForWrong : ChangeSpec := { name := "fnExactLevelFor", fn := fun _ => fun
  | [d1, d2] => { results := [.lit (.bool false)], args := [d1, d2] }
  | _ => none }
def FnExactLevelForWrongFalsely : Prop := fnExactLevelForRow.holds Try.pinned (OpenSpec.ofChange fnExactLevelForWrong)

/-- 'laws.FnRations': WHATEVER THE INPUT: true; the input reads as it did. -/
def fnRationsSpec : ChangeSpec := { name := "fnRations", fn := fun _ => fun
  | [d] => { results := [.lit (.bool true)], args := [d] }
  | _ => none }
def fnRationsRow : OpenClaim := { program := "ytnoakpmlnhmfbaa", sum := "8515369128c893180ff91be4275296a202fbf73f543cc7f2424cc54ed3ac39ce", func := "loop.example/g03008/laws.FnRations", spec := "fnRations", apart := false }
def FnRationsSaid : Prop := fnRationsRow.holds Try.pinned (OpenSpec.ofChange fnRationsSpec)

/-- ITS FALSE NEIGHBOUR: 'it returns false'. Refute it at one input. -/
def fnRationsWrong : ChangeSpec := { name := "fnRations", fn := fun _ => fun
  | [d] => { results := [.lit (.bool false)], args := [d] }
  | _ => none }
def FnRationsWrongFalsely : Prop := fnRationsRow.holds Try.pinned (OpenSpec.ofChange fnRationsWrong)

/- THE SECOND FORM. 'bulk': how many values and letters a reading holds, each counted each time it is reached (what is shared counts as often as it is met; a slice's spare places count too). A statement '..UptoSaid' is the law's where the arguments, and the package variables that the reading takes, are together of bulk at most 1048576: NARROWER than '..Said'. Prove '..Said' where nothing that the law and all that it calls make is longer than what came in: it says more and counts as full. Else prove '..UptoSaid'. A law counts once. -/
mutual
def uptoBulk {H : Type} : DataW H → Nat
  | .lit (.string bytes) => bytes.length + 1
  | .lit _ => 1
  | .nil => 1
  | .ptr d => uptoBulk d + 1
  | .slice elems spare => uptoBulkAll elems + uptoBulkAll spare + 1
  | .agg parts => uptoBulkAll parts + 1
  | .iface _ d => uptoBulk d + 1
  | .map entries => uptoBulkEntries entries + 1
  | .held _ => 1
def uptoBulkAll {H : Type} : List (DataW H) → Nat
  | [] => 0
  | d :: r => uptoBulk d + uptoBulkAll r
def uptoBulkEntries {H : Type} : List (Lit × DataW H) → Nat
  | [] => 0
  | x :: r => uptoBulkEntry x + uptoBulkEntries r
def uptoBulkEntry {H : Type} : Lit × DataW H → Nat
  | (.string bytes, d) => bytes.length + uptoBulk d + 1
  | (_, d) => uptoBulk d + 1
 end
def uptoSmall : (H : Type) → List (DataW H) → Bool := fun _ ds => decide (uptoBulkAll ds ≤ 1048576)
def OpenSpec.upto (s : _root_.Go.ChangeSpec) : _root_.Go.OpenSpec := { _root_.Go.OpenSpec.ofChange s with cond := some uptoSmall }

/-- 'laws.FnExactBestLoad', WHERE WHAT IT READS IS OF BULK AT MOST 1048576: true; the input reads as it did. -/
def fnExactBestLoadUptoRow : OpenClaim := { program := "ytnoakpmlnhmfbaa", sum := "8515369128c893180ff91be4275296a202fbf73f543cc7f2424cc54ed3ac39ce", func := "loop.example/g03008/laws.FnExactBestLoad", spec := "fnExactBestLoad", apart := false, narrowed := true }
def FnExactBestLoadUptoSaid : Prop := fnExactBestLoadUptoRow.holds Try.pinned (OpenSpec.upto fnExactBestLoadSpec)

/-- 'laws.FnExactBestWorth', WHERE WHAT IT READS IS OF BULK AT MOST 1048576: true; the input reads as it did. -/
def fnExactBestWorthUptoRow : OpenClaim := { program := "ytnoakpmlnhmfbaa", sum := "8515369128c893180ff91be4275296a202fbf73f543cc7f2424cc54ed3ac39ce", func := "loop.example/g03008/laws.FnExactBestWorth", spec := "fnExactBestWorth", apart := false, narrowed := true }
def FnExactBestWorthUptoSaid : Prop := fnExactBestWorthUptoRow.holds Try.pinned (OpenSpec.upto fnExactBestWorthSpec)

/-- 'laws.FnSamples', WHERE WHAT IT READS IS OF BULK AT MOST 1048576: true; the input reads as it did. -/
def fnSamplesUptoRow : OpenClaim := { program := "ytnoakpmlnhmfbaa", sum := "8515369128c893180ff91be4275296a202fbf73f543cc7f2424cc54ed3ac39ce", func := "loop.example/g03008/laws.FnSamples", spec := "fnSamples", apart := false, narrowed := true }
def FnSamplesUptoSaid : Prop := fnSamplesUptoRow.holds Try.pinned (OpenSpec.upto fnSamplesSpec)

/-- 'laws.FnExactLastsDays', WHERE WHAT IT READS IS OF BULK AT MOST 1048576: true; the input reads as it did. -/
def fnExactLastsDaysUptoRow : OpenClaim := { program := "ytnoakpmlnhmfbaa", sum := "8515369128c893180ff91be4275296a202fbf73f543cc7f2424cc54ed3ac39ce", func := "loop.example/g03008/laws.FnExactLastsDays", spec := "fnExactLastsDays", apart := false, narrowed := true }
def FnExactLastsDaysUptoSaid : Prop := fnExactLastsDaysUptoRow.holds Try.pinned (OpenSpec.upto fnExactLastsDaysSpec)

/-- 'laws.FnExactMixedDays', WHERE WHAT IT READS IS OF BULK AT MOST 1048576: true; the input reads as it did. -/
def fnExactMixedDaysUptoRow : OpenClaim := { program := "ytnoakpmlnhmfbaa", sum := "8515369128c893180ff91be4275296a202fbf73f543cc7f2424cc54ed3ac39ce", func := "loop.example/g03008/laws.FnExactMixedDays", spec := "fnExactMixedDays", apart := false, narrowed := true }
def FnExactMixedDaysUptoSaid : Prop := fnExactMixedDaysUptoRow.holds Try.pinned (OpenSpec.upto fnExactMixedDaysSpec)

/-- 'laws.FnExactLevelFor', WHERE WHAT IT READS IS OF BULK AT MOST 1048576: true; the input reads as it did. -/
def fnExactLevelForUptoRow : OpenClaim := { program := "ytnoakpmlnhmfbaa", sum := "8515369128c893180ff91be4275296a202fbf73f543cc7f2424cc54ed3ac39ce", func := "loop.example/g03008/laws.FnExactLevelFor", spec := "fnExactLevelFor", apart := false, narrowed := true }
def FnExactLevelForUptoSaid : Prop := fnExactLevelForUptoRow.holds Try.pinned (OpenSpec.upto fnExactLevelForSpec)

/-- 'laws.FnRations', WHERE WHAT IT READS IS OF BULK AT MOST 1048576: true; the input reads as it did. -/
def fnRationsUptoRow : OpenClaim := { program := "ytnoakpmlnhmfbaa", sum := "8515369128c893180ff91be4275296a202fbf73f543cc7f2424cc54ed3ac39ce", func := "loop.example/g03008/laws.FnRations", spec := "fnRations", apart := false, narrowed := true }
def FnRationsUptoSaid : Prop := fnRationsUptoRow.holds Try.pinned (OpenSpec.upto fnRationsSpec)

end Rows
end Go.Proofs.Ytnoakpmlnhmfbaa
