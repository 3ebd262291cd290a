/- IsAppliance: the plain law. Conditions: none. -/
import Derived.Test.YteinfbfaijjknaaStmtFnExactIsAppliance
import Derived.Test.YteinfbfaijjknaaAp
namespace Go.Proofs.Yteinfbfaijjknaa
open Go.RowKit Go.Proofs.YteinfbfaijjknaaW.PrintWords
set_option linter.unusedSimpArgs false
set_option linter.unusedVariables false
theorem FnExactIsAppliance.pure : FnExactIsAppliance.Said := by
  intro x hx
  refine ⟨1048577, ?_⟩
  simp only [P.laws_FnExactIsAppliance.f, szAppliance_eq _ _ _ _ _ 1048576 hx.1 (by omega) (by omega), Option.bind_some]
  by_cases h : (x.f0.size : Int) ≤ 1048576
  · rw [if_pos h, if_neg (by omega)]
    have h1 := apGood_eq (⟨x.f0, x.f1, x.f2, x.f3, x.f4⟩ : Ap) (show x.f0.size ≤ 1048576 by omega) 1048577 (show x.f0.size < 1048577 by omega)
    have h2 := isAppliance_eq (⟨x.f0, x.f1, x.f2, x.f3, x.f4⟩ : Ap) (show x.f0.size ≤ 1048576 by omega) 1048577 (show x.f0.size < 1048577 by omega)
    simp only at h1 h2
    simp only [toAppliance_eq, Option.bind_some, P.spec_IsAppliance.f, P.impl_IsAppliance.f, h1, h2]
    simp
  · rw [if_neg h, if_pos (by omega)]
end Go.Proofs.Yteinfbfaijjknaa
