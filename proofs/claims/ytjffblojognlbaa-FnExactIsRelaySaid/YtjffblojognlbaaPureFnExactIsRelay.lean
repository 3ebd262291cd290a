/- IsRelay: the plain law: both sides say the same of a relay. -/
import Derived.Test.YtjffblojognlbaaStmtFnExactIsRelay
import Derived.Test.YtjffblojognlbaaBaseRelay
namespace Go.Proofs.Ytjffblojognlbaa
open Go.RowKit Go.Proofs.YtjffblojognlbaaW.PrintWords
set_option linter.unusedSimpArgs false
set_option linter.unusedVariables false

theorem FnExactIsRelay.pure : FnExactIsRelay.Said := by
  intro x hx
  have hc := bound_i64 hx.2.2.1
  simp only [P.laws_FnExactIsRelay.f, toRelay_eq, Option.bind_some, P.spec_IsRelay.f, P.impl_IsRelay.f, ryGood_eq, isRelay_eq _ _ _ _ hc]
  simp

end Go.Proofs.Ytjffblojognlbaa
