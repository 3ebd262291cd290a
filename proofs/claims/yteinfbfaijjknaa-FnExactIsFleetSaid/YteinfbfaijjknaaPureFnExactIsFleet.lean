/- IsFleet: the plain law. Conditions: none. -/
import Derived.Test.YteinfbfaijjknaaStmtFnExactIsFleet
import Derived.Test.YteinfbfaijjknaaAp
namespace Go.Proofs.Yteinfbfaijjknaa
open Go.RowKit Go.Proofs.YteinfbfaijjknaaW.PrintWords
set_option linter.unusedSimpArgs false
set_option linter.unusedVariables false
theorem FnExactIsFleet.pure : FnExactIsFleet.Said := by
  intro l ⟨hl, hw⟩
  obtain ⟨r, hr, hz⟩ := szApplianceS_eq l hl hw
  obtain ⟨k, hk⟩ : ∃ k : Nat, l.length + 2100001 ≤ k := ⟨_, Nat.le_refl _⟩
  refine ⟨k, ?_⟩
  simp only [P.laws_FnExactIsFleet.f, hz k (by omega), Option.bind_some]
  by_cases h : 0 ≤ r
  · obtain ⟨h1, h2⟩ := hr h
    rw [if_neg (by omega)]
    simp only [toApplianceS_eq l h1 k (by omega), Option.bind_some, P.spec_IsFleet.f, P.impl_IsFleet.f, apFleet_eq _ h2 k (by omega), isFleet_eq _ h2 k (by omega),
      eqApplianceS_refl (l.map toAp) h2.1 k (by simp; omega), bne_self_eq_false, Bool.false_eq_true, if_false, if_true]
  · rw [if_pos (by omega)]
end Go.Proofs.Yteinfbfaijjknaa
