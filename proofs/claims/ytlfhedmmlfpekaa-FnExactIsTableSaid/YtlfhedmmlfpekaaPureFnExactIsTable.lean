/- IsTable: the plain law. Conditions: none. -/
import Derived.Test.YtlfhedmmlfpekaaStmtFnExactIsTable
import Derived.Test.YtlfhedmmlfpekaaRw
namespace Go.Proofs.Ytlfhedmmlfpekaa
open Go.RowKit Go.Proofs.YtlfhedmmlfpekaaW.PrintWords
set_option linter.unusedSimpArgs false
set_option linter.unusedVariables false
theorem FnExactIsTable.pure : FnExactIsTable.Said := by
  intro l ⟨hl, hw⟩
  obtain ⟨r, hr0, hr, hz⟩ := szRowS_any l 1048576 (by omega) (by omega) hl hw
  obtain ⟨k, hk⟩ : ∃ k : Nat, l.length + 2100001 ≤ k := ⟨_, Nat.le_refl _⟩
  refine ⟨k, ?_⟩
  simp only [P.laws_FnExactIsTable.f, hz k (by omega), Option.bind_some]
  by_cases h : 0 ≤ r
  · have hb := hr h
    rw [if_neg (by omega)]
    simp only [toRowS_eq l hb k (by omega), Option.bind_some, P.spec_IsTable.f, P.impl_IsTable.f, tbGood_eq _ hb.map k (by omega), isTable_eq _ hb.map k (by omega), eqRowS_refl _ hb.map k (by omega), bne_self_eq_false, Bool.false_eq_true, if_false, if_true]
  · rw [if_pos (by omega)]
end Go.Proofs.Ytlfhedmmlfpekaa
