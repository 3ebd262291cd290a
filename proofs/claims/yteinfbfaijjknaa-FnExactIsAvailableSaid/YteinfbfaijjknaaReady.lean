/- Whether an appliance is available; the one with a name: both sides say the same. Conditions: none beyond those of each lemma. -/
import Derived.Test.YteinfbfaijjknaaAp
import Derived.Test.YteinfbfaijjknaaPx9
import Derived.Test.YteinfbfaijjknaaPx8
namespace Go.Proofs.Yteinfbfaijjknaa
open Go.RowKit Go.Proofs.YteinfbfaijjknaaW.PrintWords
set_option linter.unusedSimpArgs false
set_option linter.unusedVariables false
def readyB (x : Ap) : Bool := decide ((x.f4 = 0 ∨ x.f4 = 4) ∧ P.impl_isAvailable.tab x.f1 ≤ x.f3)
theorem tab_rd (k : Int) (h0 : 0 ≤ k) (h1 : k ≤ 3) : rd [4, 2, 3, 2] k = P.impl_isAvailable.tab k := by
  have : k = 0 ∨ k = 1 ∨ k = 2 ∨ k = 3 := by omega
  rcases this with rfl | rfl | rfl | rfl <;> rfl
theorem apReady_eq (x : Ap) (h : 0 ≤ x.f1 ∧ x.f1 ≤ 3) : P.spec_apReady.f x.f0 x.f1 x.f2 x.f3 x.f4 = some (readyB x) := by
  simp only [P.spec_apReady.f, Option.bind_some, tab_rd x.f1 h.1 h.2, readyB]
  by_cases h0 : x.f4 = 0
  · rw [if_pos h0, if_pos h.1, if_pos (by simp; omega)]
    exact some_dec (by simp [h0])
  · rw [if_neg h0]
    by_cases h4 : x.f4 = 4
    · rw [if_pos h4, if_pos h.1, if_pos (by simp; omega)]
      exact some_dec (by simp [h4])
    · rw [if_neg h4]
      exact some_f (by simp [h0, h4])
theorem isAvailable_eq (x : Ap) (h : 0 ≤ x.f1 ∧ x.f1 ≤ 3) : P.impl_isAvailable.f x.f0 x.f1 x.f2 x.f3 x.f4 = some (readyB x) := by
  simp only [P.impl_isAvailable.f, readyB]
  by_cases h0 : x.f4 = 0 ∨ x.f4 = 4
  · rw [if_pos h0, if_pos h.1, if_pos (by omega)]
    exact some_dec (by simp [h0])
  · rw [if_neg h0]
    exact some_f (by simp [h0])
end Go.Proofs.Yteinfbfaijjknaa
