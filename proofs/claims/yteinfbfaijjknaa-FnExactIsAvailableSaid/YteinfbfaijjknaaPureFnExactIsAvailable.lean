/- IsAvailable: the plain law. Conditions: none. -/
import Derived.Test.YteinfbfaijjknaaStmtFnExactIsAvailable
import Derived.Test.YteinfbfaijjknaaReady
namespace Go.Proofs.Yteinfbfaijjknaa
open Go.RowKit Go.Proofs.YteinfbfaijjknaaW.PrintWords
set_option linter.unusedSimpArgs false
set_option linter.unusedVariables false
theorem FnExactIsAvailable.pure : FnExactIsAvailable.Said := by
  intro x hx
  obtain ⟨k, hk⟩ : ∃ k : Nat, 1048577 ≤ k := ⟨_, Nat.le_refl _⟩
  refine ⟨k, ?_⟩
  simp only [P.laws_FnExactIsAvailable.f, szAppliance_eq _ _ _ _ _ 1048576 hx.1 (by omega) (by omega), Option.bind_some]
  by_cases h : (x.f0.size : Int) ≤ 1048576
  · rw [if_pos h, if_neg (by omega)]
    have h1 := apGood_eq (⟨x.f0, x.f1, x.f2, x.f3, x.f4⟩ : Ap) (show x.f0.size ≤ 1048576 by omega) k (show x.f0.size < k by omega)
    have h2 := isAppliance_eq (⟨x.f0, x.f1, x.f2, x.f3, x.f4⟩ : Ap) (show x.f0.size ≤ 1048576 by omega) k (show x.f0.size < k by omega)
    simp only at h1 h2
    by_cases hg : goodB (⟨x.f0, x.f1, x.f2, x.f3, x.f4⟩ : Ap) = true
    · have h3 := apReady_eq (⟨x.f0, x.f1, x.f2, x.f3, x.f4⟩ : Ap) (goodB_spec hg).2.1
      have h4 := isAvailable_eq (⟨x.f0, x.f1, x.f2, x.f3, x.f4⟩ : Ap) (goodB_spec hg).2.1
      simp only at h3 h4
      simp only [toAppliance_eq, Option.bind_some, P.spec_IsAvailable.f, P.impl_IsAvailable.f, h1, h2, hg, if_true, h3, h4, bne_self_eq_false, Bool.false_eq_true, if_false]
    · simp only [toAppliance_eq, Option.bind_some, P.spec_IsAvailable.f, P.impl_IsAvailable.f, h1, h2, if_neg hg, bne_self_eq_false, Bool.false_eq_true, if_false]
  · rw [if_neg h, if_pos (by omega)]
end Go.Proofs.Yteinfbfaijjknaa
