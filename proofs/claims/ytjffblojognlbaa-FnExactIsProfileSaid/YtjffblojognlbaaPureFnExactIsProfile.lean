/- IsProfile: the plain law. Conditions: none. -/
import Derived.Test.YtjffblojognlbaaStmtFnExactIsProfile
import Derived.Test.YtjffblojognlbaaProf
namespace Go.Proofs.Ytjffblojognlbaa
open Go.RowKit Go.Proofs.YtjffblojognlbaaW.PrintWords
set_option linter.unusedSimpArgs false
set_option linter.unusedVariables false
theorem FnExactIsProfile.pure : FnExactIsProfile.Said := by
  intro l ⟨hl, hw⟩
  refine ⟨l.length + 100, ?_⟩
  simp only [P.laws_FnExactIsProfile.f, szPointS_eq l hl, Option.bind_some]
  by_cases h : l.length ≤ 1048576
  · rw [if_pos h, if_neg (by omega)]
    simp only [toPointS_eq l h (l.length + 100) (by omega), Option.bind_some, P.spec_IsProfile.f, P.impl_IsProfile.f, ryProfile_eq _ (l.length + 100) (by omega), isProfile_eq _ (ptsIn_map l hw) (l.length + 100) (by omega),
      eqPointS_refl (l.map toPt) (by simpa using h) (l.length + 100) (by simp), bne_self_eq_false, Bool.false_eq_true, if_false, if_true]
  · rw [if_neg h, if_pos (by omega)]
end Go.Proofs.Ytjffblojognlbaa
