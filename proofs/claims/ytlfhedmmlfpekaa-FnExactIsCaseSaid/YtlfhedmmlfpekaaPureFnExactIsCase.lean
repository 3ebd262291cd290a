/- IsCase: the plain law. Conditions: none. -/
import Derived.Test.YtlfhedmmlfpekaaStmtFnExactIsCase
import Derived.Test.YtlfhedmmlfpekaaRw
namespace Go.Proofs.Ytlfhedmmlfpekaa
open Go.RowKit Go.Proofs.YtlfhedmmlfpekaaW.PrintWords
set_option linter.unusedSimpArgs false
set_option linter.unusedVariables false
theorem FnExactIsCase.pure : FnExactIsCase.Said := by
  intro x hx
  simp only [P.laws_FnExactIsCase.f, toCase_eq, Option.bind_some, P.spec_IsCase.f, P.impl_IsCase.f, tbCase_eq, isCase_eq]
  simp
end Go.Proofs.Ytlfhedmmlfpekaa
