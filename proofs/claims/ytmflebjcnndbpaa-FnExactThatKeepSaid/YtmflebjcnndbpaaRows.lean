/-
  No cell of these rows narrows 'for every input' (looked for: loops, veiled, ifaces, maps, wideKeys, modest, calm, conditions, laid).
  DERIVED. THE GIVEN ROWS OF THIS SEAT. 6 by the template 'for every input the law returns true; each argument reads behind the call as it read before'; 0 by the template 'total and deterministic' (their statements: YtmflebjcnndbpaaTotals.lean).
  GIVEN WITH THE SEED: the statements are not yours to turn. If you find one false, say at which input.
  Laid BY PROGRAM, IN A SANDBOX (cutbox-rows.mjs): the forced cells as the released guide's own fill.sh prints them over the translation 925ce79b3a23c6fc… (all of the seat's roots in one cut). By AI agents, Wed Nov 11 2026. No macro, syntax, notation, axiom, sorry.
-/
import Derived.Test.YtmflebjcnndbpaaChecked
import GoSem.Claim
import GoSem.ClaimJoined
import GoSem.ClaimMapViews
import Derived.JoinedTies
import Derived.KernelRfl
namespace Go.Proofs.Ytmflebjcnndbpaa
/- THE CELL 'sum', in the pinned program and in every row, IS THE sha256 OF THE DUMP (.gsa) THAT YtmflebjcnndbpaaProg.lean LOADS. Nothing in Lean hashes anything: it is a label: what it is worth is what the hold of that sum in a sandbox is worth. -/
noncomputable def Try.pinned : Pinned := { name := "ytmflebjcnndbpaa", sum := "925ce79b3a23c6fc7260bcc0691b5718ea0f800060868391d1a50b734b60f3c2", checked := Try.checked }
namespace Rows
def none {H : Type} : Left H := { results := [], args := [] }

/-- 'laws.FnExactLongestStorm': WHATEVER THE INPUT: true; the input reads as it did. -/
def fnExactLongestStormSpec : ChangeSpec := { name := "fnExactLongestStorm", fn := fun _ => fun
  | [d1, d2] => { results := [.lit (.bool true)], args := [d1, d2] }
  | _ => none }
def fnExactLongestStormRow : OpenClaim := { program := "ytmflebjcnndbpaa", sum := "925ce79b3a23c6fc7260bcc0691b5718ea0f800060868391d1a50b734b60f3c2", func := "loop.example/g03008/laws.FnExactLongestStorm", spec := "fnExactLongestStorm", apart := false }
def FnExactLongestStormSaid : Prop := fnExactLongestStormRow.holds Try.pinned (OpenSpec.ofChange fnExactLongestStormSpec)

/-- ITS FALSE NEIGHBOUR: 'it returns false'. Refute it at one input. -/
def fnExactLongestStormWrong : ChangeSpec := { name := "fnExactLongestStorm", fn := fun _ => fun
  | [d1, d2] => { results := [.lit (.bool false)], args := [d1, d2] }
  | _ => none }
def FnExactLongestStormWrongFalsely : Prop := fnExactLongestStormRow.holds Try.pinned (OpenSpec.ofChange fnExactLongestStormWrong)

/-- 'laws.FnExactCountWeathers': WHATEVER THE INPUT: true; the input reads as it did. -/
def fnExactCountWeathersSpec : ChangeSpec := { name := "fnExactCountWeathers", fn := fun _ => fun
  | [d1, d2, d3] => { results := [.lit (.bool true)], args := [d1, d2, d3] }
  | _ => none }
def fnExactCountWeathersRow : OpenClaim := { program := "ytmflebjcnndbpaa", sum := "925ce79b3a23c6fc7260bcc0691b5718ea0f800060868391d1a50b734b60f3c2", func := "loop.example/g03008/laws.FnExactCountWeathers", spec := "fnExactCountWeathers", recurses := true, apart := false }
def FnExactCountWeathersSaid : Prop := fnExactCountWeathersRow.holds Try.pinned (OpenSpec.ofChange fnExactCountWeathersSpec)

/-- ITS FALSE NEIGHBOUR: 'it returns false'. Refute it at one input. -/
def fnExactCountWeathersWrong : ChangeSpec := { name := "fnExactCountWeathers", fn := fun _ => fun
  | [d1, d2, d3] => { results := [.lit (.bool false)], args := [d1, d2, d3] }
  | _ => none }
def FnExactCountWeathersWrongFalsely : Prop := fnExactCountWeathersRow.holds Try.pinned (OpenSpec.ofChange fnExactCountWeathersWrong)

/-- 'laws.FnExactSlowestDays': WHATEVER THE INPUT: true; the input reads as it did. -/
def fnExactSlowestDaysSpec : ChangeSpec := { name := "fnExactSlowestDays", fn := fun _ => fun
  | [d1, d2, d3] => { results := [.lit (.bool true)], args := [d1, d2, d3] }
  | _ => none }
def fnExactSlowestDaysRow : OpenClaim := { program := "ytmflebjcnndbpaa", sum := "925ce79b3a23c6fc7260bcc0691b5718ea0f800060868391d1a50b734b60f3c2", func := "loop.example/g03008/laws.FnExactSlowestDays", spec := "fnExactSlowestDays", recurses := true, apart := false }
def FnExactSlowestDaysSaid : Prop := fnExactSlowestDaysRow.holds Try.pinned (OpenSpec.ofChange fnExactSlowestDaysSpec)

/-- ITS FALSE NEIGHBOUR: 'it returns false'. Refute it at one input. -/
def fnExactSlowestDaysWrong : ChangeSpec := { name := "fnExactSlowestDays", fn := fun _ => fun
  | [d1, d2, d3] => { results := [.lit (.bool false)], args := [d1, d2, d3] }
  | _ => none }
def FnExactSlowestDaysWrongFalsely : Prop := fnExactSlowestDaysRow.holds Try.pinned (OpenSpec.ofChange fnExactSlowestDaysWrong)

/-- 'laws.FnExactThatKeep': WHATEVER THE INPUT: true; the input reads as it did. -/
def fnExactThatKeepSpec : ChangeSpec := { name := "fnExactThatKeep", fn := fun _ => fun
  | [d1, d2, d3] => { results := [.lit (.bool true)], args := [d1, d2, d3] }
  | _ => none }
def fnExactThatKeepRow : OpenClaim := { program := "ytmflebjcnndbpaa", sum := "925ce79b3a23c6fc7260bcc0691b5718ea0f800060868391d1a50b734b60f3c2", func := "loop.example/g03008/laws.FnExactThatKeep", spec := "fnExactThatKeep", apart := false }
def FnExactThatKeepSaid : Prop := fnExactThatKeepRow.holds Try.pinned (OpenSpec.ofChange fnExactThatKeepSpec)

/-- ITS FALSE NEIGHBOUR: 'it returns false'. Refute it at one input. -/
def fnExactThatKeepWrong : ChangeSpec := { name := "fnExactThatKeep", fn := fun _ => fun
  | [d1, d2, d3] => { results := [.lit (.bool false)], args := [d1, d2, d3] }
  | _ => none }
def FnExactThatKeepWrongFalsely : Prop := fnExactThatKeepRow.holds Try.pinned (OpenSpec.ofChange fnExactThatKeepWrong)

/-- 'laws.FnWeathers': WHATEVER THE INPUT: true; the input reads as it did. -/
def fnWeathersSpec : ChangeSpec := { name := "fnWeathers", fn := fun _ => fun
  | [d] => { results := [.lit (.bool true)], args := [d] }
  | _ => none }
def fnWeathersRow : OpenClaim := { program := "ytmflebjcnndbpaa", sum := "925ce79b3a23c6fc7260bcc0691b5718ea0f800060868391d1a50b734b60f3c2", func := "loop.example/g03008/laws.FnWeathers", spec := "fnWeathers", recurses := true, apart := false }
def FnWeathersSaid : Prop := fnWeathersRow.holds Try.pinned (OpenSpec.ofChange fnWeathersSpec)

/-- ITS FALSE NEIGHBOUR: 'it returns false'. Refute it at one input. -/
def fnWeathersWrong : ChangeSpec := { name := "fnWeathers", fn := fun _ => fun
  | [d] => { results := [.lit (.bool false)], args := [d] }
  | _ => none }
def FnWeathersWrongFalsely : Prop := fnWeathersRow.holds Try.pinned (OpenSpec.ofChange fnWeathersWrong)

/-- 'laws.FnExactFoodAfter': WHATEVER THE INPUT: true; the input reads as it did. -/
def fnExactFoodAfterSpec : ChangeSpec := { name := "fnExactFoodAfter", fn := fun _ => fun
  | [d1, d2] => { results := [.lit (.bool true)], args := [d1, d2] }
  | _ => none }
def fnExactFoodAfterRow : OpenClaim := { program := "ytmflebjcnndbpaa", sum := "925ce79b3a23c6fc7260bcc0691b5718ea0f800060868391d1a50b734b60f3c2", func := "loop.example/g03008/laws.FnExactFoodAfter", spec := "fnExactFoodAfter", apart := false }
def FnExactFoodAfterSaid : Prop := fnExactFoodAfterRow.holds Try.pinned (OpenSpec.ofChange fnExactFoodAfterSpec)

/-- ITS FALSE NEIGHBOUR: 'it returns false'. Refute it at one input. -/
def fnExactFoodAfterWrong : ChangeSpec := { name := "fnExactFoodAfter", fn := fun _ => fun
  | [d1, d2] => { results := [.lit (.bool false)], args := [d1, d2] }
  | _ => none }
def FnExactFoodAfterWrongFalsely : Prop := fnExactFoodAfterRow.holds Try.pinned (OpenSpec.ofChange fnExactFoodAfterWrong)

/- THE SECOND FORM. 'bulk': how many values and letters a reading holds, each counted each time it is reached (what is shared counts as often as it is met; a slice's spare places count too). A statement '..UptoSaid' is the law's where the arguments, and the package variables that the reading takes, are together of bulk at most 1048576: NARROWER than '..Said'. Prove '..Said' where nothing that the law and all that it calls make is longer than what came in: it says more and counts as full. Else prove '..UptoSaid'. A law counts once. -/
mutual
def uptoBulk {H : Type} : DataW H → Nat
  | .lit (.string bytes) => bytes.length + 1
  | .lit _ => 1
  | .nil => 1
  | .ptr d => uptoBulk d + 1
  | .slice elems spare => uptoBulkAll elems + uptoBulkAll spare + 1
  | .agg parts => uptoBulkAll parts + 1
  | .iface _ d => uptoBulk d + 1
  | .map entries => uptoBulkEntries entries + 1
  | .held _ => 1
def uptoBulkAll {H : Type} : List (DataW H) → Nat
  | [] => 0
  | d :: r => uptoBulk d + uptoBulkAll r
def uptoBulkEntries {H : Type} : List (Lit × DataW H) → Nat
  | [] => 0
  | x :: r => uptoBulkEntry x + uptoBulkEntries r
def uptoBulkEntry {H : Type} : Lit × DataW H → Nat
  | (.string bytes, d) => bytes.length + uptoBulk d + 1
  | (_, d) => uptoBulk d + 1
 end
def uptoSmall : (H : Type) → List (DataW H) → Bool := fun _ ds => decide (uptoBulkAll ds ≤ 1048576)
def OpenSpec.upto (s : _root_.Go.ChangeSpec) : _root_.Go.OpenSpec := { _root_.Go.OpenSpec.ofChange s with cond := some uptoSmall }

/-- 'laws.FnExactLongestStorm', WHERE WHAT IT READS IS OF BULK AT MOST 1048576: true; the input reads as it did. -/
def fnExactLongestStormUptoRow : OpenClaim := { program := "ytmflebjcnndbpaa", sum := "925ce79b3a23c6fc7260bcc0691b5718ea0f800060868391d1a50b734b60f3c2", func := "loop.example/g03008/laws.FnExactLongestStorm", spec := "fnExactLongestStorm", apart := false, narrowed := true }
def FnExactLongestStormUptoSaid : Prop := fnExactLongestStormUptoRow.holds Try.pinned (OpenSpec.upto fnExactLongestStormSpec)

/-- 'laws.FnExactCountWeathers', WHERE WHAT IT READS IS OF BULK AT MOST 1048576: true; the input reads as it did. -/
def fnExactCountWeathersUptoRow : OpenClaim := { program := "ytmflebjcnndbpaa", sum := "925ce79b3a23c6fc7260bcc0691b5718ea0f800060868391d1a50b734b60f3c2", func := "loop.example/g03008/laws.FnExactCountWeathers", spec := "fnExactCountWeathers", recurses := true, apart := false, narrowed := true }
def FnExactCountWeathersUptoSaid : Prop := fnExactCountWeathersUptoRow.holds Try.pinned (OpenSpec.upto fnExactCountWeathersSpec)

/-- 'laws.FnExactSlowestDays', WHERE WHAT IT READS IS OF BULK AT MOST 1048576: true; the input reads as it did. -/
def fnExactSlowestDaysUptoRow : OpenClaim := { program := "ytmflebjcnndbpaa", sum := "925ce79b3a23c6fc7260bcc0691b5718ea0f800060868391d1a50b734b60f3c2", func := "loop.example/g03008/laws.FnExactSlowestDays", spec := "fnExactSlowestDays", recurses := true, apart := false, narrowed := true }
def FnExactSlowestDaysUptoSaid : Prop := fnExactSlowestDaysUptoRow.holds Try.pinned (OpenSpec.upto fnExactSlowestDaysSpec)

/-- 'laws.FnExactThatKeep', WHERE WHAT IT READS IS OF BULK AT MOST 1048576: true; the input reads as it did. -/
def fnExactThatKeepUptoRow : OpenClaim := { program := "ytmflebjcnndbpaa", sum := "925ce79b3a23c6fc7260bcc0691b5718ea0f800060868391d1a50b734b60f3c2", func := "loop.example/g03008/laws.FnExactThatKeep", spec := "fnExactThatKeep", apart := false, narrowed := true }
def FnExactThatKeepUptoSaid : Prop := fnExactThatKeepUptoRow.holds Try.pinned (OpenSpec.upto fnExactThatKeepSpec)

/-- 'laws.FnWeathers', WHERE WHAT IT READS IS OF BULK AT MOST 1048576: true; the input reads as it did. -/
def fnWeathersUptoRow : OpenClaim := { program := "ytmflebjcnndbpaa", sum := "925ce79b3a23c6fc7260bcc0691b5718ea0f800060868391d1a50b734b60f3c2", func := "loop.example/g03008/laws.FnWeathers", spec := "fnWeathers", recurses := true, apart := false, narrowed := true }
def FnWeathersUptoSaid : Prop := fnWeathersUptoRow.holds Try.pinned (OpenSpec.upto fnWeathersSpec)

/-- 'laws.FnExactFoodAfter', WHERE WHAT IT READS IS OF BULK AT MOST 1048576: true; the input reads as it did. -/
def fnExactFoodAfterUptoRow : OpenClaim := { program := "ytmflebjcnndbpaa", sum := "925ce79b3a23c6fc7260bcc0691b5718ea0f800060868391d1a50b734b60f3c2", func := "loop.example/g03008/laws.FnExactFoodAfter", spec := "fnExactFoodAfter", apart := false, narrowed := true }
def FnExactFoodAfterUptoSaid : Prop := fnExactFoodAfterUptoRow.holds Try.pinned (OpenSpec.upto fnExactFoodAfterSpec)

end Rows
end Go.Proofs.Ytmflebjcnndbpaa
