/- The pure statement of FnExactSteepestPart. -/
import Derived.Test.YtjffblojognlbaaPx33
import Derived.Test.YtjffblojognlbaaTypes
namespace Go.Proofs.Ytjffblojognlbaa
open Go.RowKit Go.Proofs.YtjffblojognlbaaW.PrintWords
/-- What is left of the statement: numbers and lists alone. -/
def FnExactSteepestPart.Said : Prop := ∀ (l0 : List P.S77), (l0.length ≤ maxLen ∧ ∀ y ∈ l0, Wf77 y) → ∃ k, P.laws_FnExactSteepestPart.f k l0 = some true
end Go.Proofs.Ytjffblojognlbaa
