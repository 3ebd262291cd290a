/- MayChange: the plain law. Conditions: none. -/
import Derived.Test.YteinfbfaijjknaaStmtFnExactMayChange
import Derived.Test.YteinfbfaijjknaaInR
namespace Go.Proofs.Yteinfbfaijjknaa
open Go.RowKit Go.Proofs.YteinfbfaijjknaaW.PrintWords
set_option linter.unusedSimpArgs false
set_option linter.unusedVariables false
theorem FnExactMayChange.pure : FnExactMayChange.Said := by
  intro a b ha hb
  refine ⟨20, ?_⟩
  by_cases h1 : 0 ≤ a ∧ a ≤ 5
  · by_cases h2 : 0 ≤ b ∧ b ≤ 5
    · obtain ⟨h1, h1'⟩ := h1
      obtain ⟨h2, h2'⟩ := h2
      have ca : a = 0 ∨ a = 1 ∨ a = 2 ∨ a = 3 ∨ a = 4 ∨ a = 5 := by omega
      have cb : b = 0 ∨ b = 1 ∨ b = 2 ∨ b = 3 ∨ b = 4 ∨ b = 5 := by omega
      clear ha hb
      rcases ca with rfl | rfl | rfl | rfl | rfl | rfl <;> rcases cb with rfl | rfl | rfl | rfl | rfl | rfl <;> decide +kernel
    · simp only [P.laws_FnExactMayChange.f, P.spec_MayChange.f, P.impl_MayChange.f, P.spec_apState.f, P.impl_isState.f, l1In_eq, inside_eq, Option.bind_some, decide_eq_true h1, decide_eq_false h2, if_true, Bool.false_eq_true, if_false, P.impl_MayChange.j0, Bool.not_false, bne_self_eq_false]
  · simp only [P.laws_FnExactMayChange.f, P.spec_MayChange.f, P.impl_MayChange.f, P.spec_apState.f, P.impl_isState.f, l1In_eq, inside_eq, Option.bind_some, decide_eq_false h1, if_true, Bool.false_eq_true, if_false, P.impl_MayChange.j0, bne_self_eq_false]
end Go.Proofs.Yteinfbfaijjknaa
