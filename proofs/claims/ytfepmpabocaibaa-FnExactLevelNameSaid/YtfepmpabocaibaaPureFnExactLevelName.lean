/- FnExactLevelName: the pure statement of the law, over the printed functions. No condition beyond the statement's own. -/
import Derived.Test.YtfepmpabocaibaaPFnExactLevelNamex1
import Derived.Test.YtfepmpabocaibaaLib
import Derived.Test.YtfepmpabocaibaaOpens
namespace Go.Proofs.Ytfepmpabocaibaa.Pure
open Go.RowKit Go.Proofs.Ytfepmpabocaibaa.PFnExactLevelName Go.Proofs.YtfepmpabocaibaaW.PrintWords Go.Proofs.YtfepmpabocaibaaW.PrintLast Go.Proofs.Ytfepmpabocaibaa.Lib Go.Proofs.Ytfepmpabocaibaa.Opens
set_option linter.unusedVariables false
set_option linter.unusedSimpArgs false
namespace FnExactLevelNamePf
end FnExactLevelNamePf
open FnExactLevelNamePf
theorem FnExactLevelName : laws_FnExactLevelName.Pure := by
  intro a0 _
  have e1 : spec_l1In.f a0 0 2 = some (decide (0 ≤ a0 ∧ a0 ≤ 2)) := by
    unfold spec_l1In.f
    by_cases h : a0 ≥ 0
    · rw [if_pos h]; simp [h]
    · rw [if_neg h]; simp [show ¬ (0 ≤ a0) from by omega]
  have e2 : impl_InRange.f a0 0 2 = some (decide (0 ≤ a0 ∧ a0 ≤ 2)) := by
    unfold impl_InRange.f
    by_cases h : 0 ≤ a0
    · rw [if_pos h]; simp [h]
    · rw [if_neg h]; simp [h]
  have e3 : impl_LevelName.f a0 = spec_LevelName.f a0 := by
    unfold impl_LevelName.f spec_LevelName.f
    rw [e1, e2]
  have e4 : ∃ s, spec_LevelName.f a0 = some s := by
    unfold spec_LevelName.f
    rw [e1]
    simp only [Option.bind_some]
    by_cases h : 0 ≤ a0 ∧ a0 ≤ 2
    · rw [if_pos (by simpa using h), if_pos h.1, if_pos (by simp only [List.length_cons, List.length_nil]; omega)]
      exact ⟨_, rfl⟩
    · rw [if_neg (by simpa using h)]
      exact ⟨_, rfl⟩
  obtain ⟨s, hs⟩ := e4
  unfold laws_FnExactLevelName.f
  rw [e3, hs]
  simp
end Go.Proofs.Ytfepmpabocaibaa.Pure
