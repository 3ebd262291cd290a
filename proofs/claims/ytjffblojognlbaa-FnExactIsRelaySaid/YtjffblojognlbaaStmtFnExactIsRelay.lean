/- The pure statement of FnExactIsRelay. -/
import Derived.Test.YtjffblojognlbaaPx9
import Derived.Test.YtjffblojognlbaaTypes
namespace Go.Proofs.Ytjffblojognlbaa
open Go.RowKit Go.Proofs.YtjffblojognlbaaW.PrintWords
/-- What is left of the statement: numbers and lists alone. -/
def FnExactIsRelay.Said : Prop := ∀ (x0 : P.S23), Wf23 x0 → P.laws_FnExactIsRelay.f x0.f0 x0.f1 x0.f2 x0.f3 = some true
end Go.Proofs.Ytjffblojognlbaa
