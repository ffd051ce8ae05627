/-
  No cell of these rows narrows 'for every input' (looked for: loops, veiled, ifaces, maps, wideKeys, modest, calm, conditions, laid).
  DERIVED. THE GIVEN ROWS OF THIS SEAT. 8 by the template 'for every input the law returns true; each argument reads behind the call as it read before'; 0 by the template 'total and deterministic' (their statements: YtcbkknpmeknppaaTotals.lean).
  GIVEN WITH THE SEED: the statements are not yours to turn. If you find one false, say at which input.
  Laid BY PROGRAM, IN A SANDBOX (cutbox-rows.mjs): the forced cells as the released guide's own fill.sh prints them over the translation 5bff050b4c1012d2… (all of the seat's roots in one cut). By AI agents, Wed Nov 11 2026. No macro, syntax, notation, axiom, sorry.
-/
import Derived.Test.YtcbkknpmeknppaaChecked
import GoSem.Claim
import GoSem.ClaimJoined
import GoSem.ClaimMapViews
import Derived.JoinedTies
import Derived.KernelRfl
namespace Go.Proofs.Ytcbkknpmeknppaa
/- THE CELL 'sum', in the pinned program and in every row, IS THE sha256 OF THE DUMP (.gsa) THAT YtcbkknpmeknppaaProg.lean LOADS. Nothing in Lean hashes anything: it is a label: what it is worth is what the hold of that sum in a sandbox is worth. -/
noncomputable def Try.pinned : Pinned := { name := "ytcbkknpmeknppaa", sum := "5bff050b4c1012d23a14c0b596187db702b31cc97e3f7f844a5ee5bdb5247694", checked := Try.checked }
namespace Rows
def none {H : Type} : Left H := { results := [], args := [] }

/-- 'laws.FnRations': WHATEVER THE INPUT: true; the input reads as it did. -/
def fnRationsSpec : ChangeSpec := { name := "fnRations", fn := fun _ => fun
  | [d] => { results := [.lit (.bool true)], args := [d] }
  | _ => none }
def fnRationsRow : OpenClaim := { program := "ytcbkknpmeknppaa", sum := "5bff050b4c1012d23a14c0b596187db702b31cc97e3f7f844a5ee5bdb5247694", func := "loop.example/g03008/laws.FnRations", spec := "fnRations", apart := false }
def FnRationsSaid : Prop := fnRationsRow.holds Try.pinned (OpenSpec.ofChange fnRationsSpec)

/-- ITS FALSE NEIGHBOUR: 'it returns false'. Refute it at one input. -/
def fnRationsWrong : ChangeSpec := { name := "fnRations", fn := fun _ => fun
  | [d] => { results := [.lit (.bool false)], args := [d] }
  | _ => none }
def FnRationsWrongFalsely : Prop := fnRationsRow.holds Try.pinned (OpenSpec.ofChange fnRationsWrong)

/-- 'laws.FnWeathers': WHATEVER THE INPUT: true; the input reads as it did. -/
def fnWeathersSpec : ChangeSpec := { name := "fnWeathers", fn := fun _ => fun
  | [d] => { results := [.lit (.bool true)], args := [d] }
  | _ => none }
def fnWeathersRow : OpenClaim := { program := "ytcbkknpmeknppaa", sum := "5bff050b4c1012d23a14c0b596187db702b31cc97e3f7f844a5ee5bdb5247694", func := "loop.example/g03008/laws.FnWeathers", spec := "fnWeathers", recurses := true, apart := false }
def FnWeathersSaid : Prop := fnWeathersRow.holds Try.pinned (OpenSpec.ofChange fnWeathersSpec)

/-- ITS FALSE NEIGHBOUR: 'it returns false'. Refute it at one input. -/
def fnWeathersWrong : ChangeSpec := { name := "fnWeathers", fn := fun _ => fun
  | [d] => { results := [.lit (.bool false)], args := [d] }
  | _ => none }
def FnWeathersWrongFalsely : Prop := fnWeathersRow.holds Try.pinned (OpenSpec.ofChange fnWeathersWrong)

/-- 'laws.FnSearch': WHATEVER THE INPUT: true; the input reads as it did. -/
def fnSearchSpec : ChangeSpec := { name := "fnSearch", fn := fun _ => fun
  | [d] => { results := [.lit (.bool true)], args := [d] }
  | _ => none }
def fnSearchRow : OpenClaim := { program := "ytcbkknpmeknppaa", sum := "5bff050b4c1012d23a14c0b596187db702b31cc97e3f7f844a5ee5bdb5247694", func := "loop.example/g03008/laws.FnSearch", spec := "fnSearch", apart := false }
def FnSearchSaid : Prop := fnSearchRow.holds Try.pinned (OpenSpec.ofChange fnSearchSpec)

/-- ITS FALSE NEIGHBOUR: 'it returns false'. Refute it at one input. -/
def fnSearchWrong : ChangeSpec := { name := "fnSearch", fn := fun _ => fun
  | [d] => { results := [.lit (.bool false)], args := [d] }
  | _ => none }
def FnSearchWrongFalsely : Prop := fnSearchRow.holds Try.pinned (OpenSpec.ofChange fnSearchWrong)

/-- 'laws.FnPlans': WHATEVER THE INPUT: true; the input reads as it did. -/
def fnPlansSpec : ChangeSpec := { name := "fnPlans", fn := fun _ => fun
  | [d] => { results := [.lit (.bool true)], args := [d] }
  | _ => none }
def fnPlansRow : OpenClaim := { program := "ytcbkknpmeknppaa", sum := "5bff050b4c1012d23a14c0b596187db702b31cc97e3f7f844a5ee5bdb5247694", func := "loop.example/g03008/laws.FnPlans", spec := "fnPlans", apart := false }
def FnPlansSaid : Prop := fnPlansRow.holds Try.pinned (OpenSpec.ofChange fnPlansSpec)

/-- ITS FALSE NEIGHBOUR: 'it returns false'. Refute it at one input. -/
def fnPlansWrong : ChangeSpec := { name := "fnPlans", fn := fun _ => fun
  | [d] => { results := [.lit (.bool false)], args := [d] }
  | _ => none }
def FnPlansWrongFalsely : Prop := fnPlansRow.holds Try.pinned (OpenSpec.ofChange fnPlansWrong)

/-- 'laws.FnExactIsPlan': WHATEVER THE INPUT: true; the input reads as it did. -/
def fnExactIsPlanSpec : ChangeSpec := { name := "fnExactIsPlan", fn := fun _ => fun
  | [d1, d2, d3] => { results := [.lit (.bool true)], args := [d1, d2, d3] }
  | _ => none }
def fnExactIsPlanRow : OpenClaim := { program := "ytcbkknpmeknppaa", sum := "5bff050b4c1012d23a14c0b596187db702b31cc97e3f7f844a5ee5bdb5247694", func := "loop.example/g03008/laws.FnExactIsPlan", spec := "fnExactIsPlan", apart := false }
def FnExactIsPlanSaid : Prop := fnExactIsPlanRow.holds Try.pinned (OpenSpec.ofChange fnExactIsPlanSpec)

/-- ITS FALSE NEIGHBOUR: 'it returns false'. Refute it at one input. -/
def fnExactIsPlanWrong : ChangeSpec := { name := "fnExactIsPlan", fn := fun _ => fun
  | [d1, d2, d3] => { results := [.lit (.bool false)], args := [d1, d2, d3] }
  | _ => none }
def FnExactIsPlanWrongFalsely : Prop := fnExactIsPlanRow.holds Try.pinned (OpenSpec.ofChange fnExactIsPlanWrong)

/-- 'laws.FnExactPlanDays': WHATEVER THE INPUT: true; the input reads as it did. -/
def fnExactPlanDaysSpec : ChangeSpec := { name := "fnExactPlanDays", fn := fun _ => fun
  | [d1, d2, d3] => { results := [.lit (.bool true)], args := [d1, d2, d3] }
  | _ => none }
def fnExactPlanDaysRow : OpenClaim := { program := "ytcbkknpmeknppaa", sum := "5bff050b4c1012d23a14c0b596187db702b31cc97e3f7f844a5ee5bdb5247694", func := "loop.example/g03008/laws.FnExactPlanDays", spec := "fnExactPlanDays", apart := false }
def FnExactPlanDaysSaid : Prop := fnExactPlanDaysRow.holds Try.pinned (OpenSpec.ofChange fnExactPlanDaysSpec)

/-- ITS FALSE NEIGHBOUR: 'it returns false'. Refute it at one input. -/
def fnExactPlanDaysWrong : ChangeSpec := { name := "fnExactPlanDays", fn := fun _ => fun
  | [d1, d2, d3] => { results := [.lit (.bool false)], args := [d1, d2, d3] }
  | _ => none }
def FnExactPlanDaysWrongFalsely : Prop := fnExactPlanDaysRow.holds Try.pinned (OpenSpec.ofChange fnExactPlanDaysWrong)

/-- 'laws.FnExactPlanCells': WHATEVER THE INPUT: true; the input reads as it did. -/
def fnExactPlanCellsSpec : ChangeSpec := { name := "fnExactPlanCells", fn := fun _ => fun
  | [d1, d2, d3] => { results := [.lit (.bool true)], args := [d1, d2, d3] }
  | _ => none }
def fnExactPlanCellsRow : OpenClaim := { program := "ytcbkknpmeknppaa", sum := "5bff050b4c1012d23a14c0b596187db702b31cc97e3f7f844a5ee5bdb5247694", func := "loop.example/g03008/laws.FnExactPlanCells", spec := "fnExactPlanCells", apart := false }
def FnExactPlanCellsSaid : Prop := fnExactPlanCellsRow.holds Try.pinned (OpenSpec.ofChange fnExactPlanCellsSpec)

/-- ITS FALSE NEIGHBOUR: 'it returns false'. Refute it at one input. -/
def fnExactPlanCellsWrong : ChangeSpec := { name := "fnExactPlanCells", fn := fun _ => fun
  | [d1, d2, d3] => { results := [.lit (.bool false)], args := [d1, d2, d3] }
  | _ => none }
def FnExactPlanCellsWrongFalsely : Prop := fnExactPlanCellsRow.holds Try.pinned (OpenSpec.ofChange fnExactPlanCellsWrong)

/-- 'laws.FnExactPlanFood': WHATEVER THE INPUT: true; the input reads as it did. -/
def fnExactPlanFoodSpec : ChangeSpec := { name := "fnExactPlanFood", fn := fun _ => fun
  | [d1, d2, d3, d4, d5] => { results := [.lit (.bool true)], args := [d1, d2, d3, d4, d5] }
  | _ => none }
def fnExactPlanFoodRow : OpenClaim := { program := "ytcbkknpmeknppaa", sum := "5bff050b4c1012d23a14c0b596187db702b31cc97e3f7f844a5ee5bdb5247694", func := "loop.example/g03008/laws.FnExactPlanFood", spec := "fnExactPlanFood", apart := false }
def FnExactPlanFoodSaid : Prop := fnExactPlanFoodRow.holds Try.pinned (OpenSpec.ofChange fnExactPlanFoodSpec)

/-- ITS FALSE NEIGHBOUR: 'it returns false'. Refute it at one input. -/
def fnExactPlanFoodWrong : ChangeSpec := { name := "fnExactPlanFood", fn := fun _ => fun
  | [d1, d2, d3, d4, d5] => { results := [.lit (.bool false)], args := [d1, d2, d3, d4, d5] }
  | _ => none }
def FnExactPlanFoodWrongFalsely : Prop := fnExactPlanFoodRow.holds Try.pinned (OpenSpec.ofChange fnExactPlanFoodWrong)

/- THE SECOND FORM. 'bulk': how many values and letters a reading holds, each counted each time it is reached (what is shared counts as often as it is met; a slice's spare places count too). A statement '..UptoSaid' is the law's where the arguments, and the package variables that the reading takes, are together of bulk at most 1048576: NARROWER than '..Said'. Prove '..Said' where nothing that the law and all that it calls make is longer than what came in: it says more and counts as full. Else prove '..UptoSaid'. A law counts once. -/
mutual
def uptoBulk {H : Type} : DataW H → Nat
  | .lit (.string bytes) => bytes.length + 1
  | .lit _ => 1
  | .nil => 1
  | .ptr d => uptoBulk d + 1
  | .slice elems spare => uptoBulkAll elems + uptoBulkAll spare + 1
  | .agg parts => uptoBulkAll parts + 1
  | .iface _ d => uptoBulk d + 1
  | .map entries => uptoBulkEntries entries + 1
  | .held _ => 1
def uptoBulkAll {H : Type} : List (DataW H) → Nat
  | [] => 0
  | d :: r => uptoBulk d + uptoBulkAll r
def uptoBulkEntries {H : Type} : List (Lit × DataW H) → Nat
  | [] => 0
  | x :: r => uptoBulkEntry x + uptoBulkEntries r
def uptoBulkEntry {H : Type} : Lit × DataW H → Nat
  | (.string bytes, d) => bytes.length + uptoBulk d + 1
  | (_, d) => uptoBulk d + 1
 end
def uptoSmall : (H : Type) → List (DataW H) → Bool := fun _ ds => decide (uptoBulkAll ds ≤ 1048576)
def OpenSpec.upto (s : _root_.Go.ChangeSpec) : _root_.Go.OpenSpec := { _root_.Go.OpenSpec.ofChange s with cond := some uptoSmall }

/-- 'laws.FnRations', WHERE WHAT IT READS IS OF BULK AT MOST 1048576: true; the input reads as it did. -/
def fnRationsUptoRow : OpenClaim := { program := "ytcbkknpmeknppaa", sum := "5bff050b4c1012d23a14c0b596187db702b31cc97e3f7f844a5ee5bdb5247694", func := "loop.example/g03008/laws.FnRations", spec := "fnRations", apart := false, narrowed := true }
def FnRationsUptoSaid : Prop := fnRationsUptoRow.holds Try.pinned (OpenSpec.upto fnRationsSpec)

/-- 'laws.FnWeathers', WHERE WHAT IT READS IS OF BULK AT MOST 1048576: true; the input reads as it did. -/
def fnWeathersUptoRow : OpenClaim := { program := "ytcbkknpmeknppaa", sum := "5bff050b4c1012d23a14c0b596187db702b31cc97e3f7f844a5ee5bdb5247694", func := "loop.example/g03008/laws.FnWeathers", spec := "fnWeathers", recurses := true, apart := false, narrowed := true }
def FnWeathersUptoSaid : Prop := fnWeathersUptoRow.holds Try.pinned (OpenSpec.upto fnWeathersSpec)

/-- 'laws.FnSearch', WHERE WHAT IT READS IS OF BULK AT MOST 1048576: true; the input reads as it did. -/
def fnSearchUptoRow : OpenClaim := { program := "ytcbkknpmeknppaa", sum := "5bff050b4c1012d23a14c0b596187db702b31cc97e3f7f844a5ee5bdb5247694", func := "loop.example/g03008/laws.FnSearch", spec := "fnSearch", apart := false, narrowed := true }
def FnSearchUptoSaid : Prop := fnSearchUptoRow.holds Try.pinned (OpenSpec.upto fnSearchSpec)

/-- 'laws.FnPlans', WHERE WHAT IT READS IS OF BULK AT MOST 1048576: true; the input reads as it did. -/
def fnPlansUptoRow : OpenClaim := { program := "ytcbkknpmeknppaa", sum := "5bff050b4c1012d23a14c0b596187db702b31cc97e3f7f844a5ee5bdb5247694", func := "loop.example/g03008/laws.FnPlans", spec := "fnPlans", apart := false, narrowed := true }
def FnPlansUptoSaid : Prop := fnPlansUptoRow.holds Try.pinned (OpenSpec.upto fnPlansSpec)

/-- 'laws.FnExactIsPlan', WHERE WHAT IT READS IS OF BULK AT MOST 1048576: true; the input reads as it did. -/
def fnExactIsPlanUptoRow : OpenClaim := { program := "ytcbkknpmeknppaa", sum := "5bff050b4c1012d23a14c0b596187db702b31cc97e3f7f844a5ee5bdb5247694", func := "loop.example/g03008/laws.FnExactIsPlan", spec := "fnExactIsPlan", apart := false, narrowed := true }
def FnExactIsPlanUptoSaid : Prop := fnExactIsPlanUptoRow.holds Try.pinned (OpenSpec.upto fnExactIsPlanSpec)

/-- 'laws.FnExactPlanDays', WHERE WHAT IT READS IS OF BULK AT MOST 1048576: true; the input reads as it did. -/
def fnExactPlanDaysUptoRow : OpenClaim := { program := "ytcbkknpmeknppaa", sum := "5bff050b4c1012d23a14c0b596187db702b31cc97e3f7f844a5ee5bdb5247694", func := "loop.example/g03008/laws.FnExactPlanDays", spec := "fnExactPlanDays", apart := false, narrowed := true }
def FnExactPlanDaysUptoSaid : Prop := fnExactPlanDaysUptoRow.holds Try.pinned (OpenSpec.upto fnExactPlanDaysSpec)

/-- 'laws.FnExactPlanCells', WHERE WHAT IT READS IS OF BULK AT MOST 1048576: true; the input reads as it did. -/
def fnExactPlanCellsUptoRow : OpenClaim := { program := "ytcbkknpmeknppaa", sum := "5bff050b4c1012d23a14c0b596187db702b31cc97e3f7f844a5ee5bdb5247694", func := "loop.example/g03008/laws.FnExactPlanCells", spec := "fnExactPlanCells", apart := false, narrowed := true }
def FnExactPlanCellsUptoSaid : Prop := fnExactPlanCellsUptoRow.holds Try.pinned (OpenSpec.upto fnExactPlanCellsSpec)

/-- 'laws.FnExactPlanFood', WHERE WHAT IT READS IS OF BULK AT MOST 1048576: true; the input reads as it did. -/
def fnExactPlanFoodUptoRow : OpenClaim := { program := "ytcbkknpmeknppaa", sum := "5bff050b4c1012d23a14c0b596187db702b31cc97e3f7f844a5ee5bdb5247694", func := "loop.example/g03008/laws.FnExactPlanFood", spec := "fnExactPlanFood", apart := false, narrowed := true }
def FnExactPlanFoodUptoSaid : Prop := fnExactPlanFoodUptoRow.holds Try.pinned (OpenSpec.upto fnExactPlanFoodSpec)

end Rows
end Go.Proofs.Ytcbkknpmeknppaa
