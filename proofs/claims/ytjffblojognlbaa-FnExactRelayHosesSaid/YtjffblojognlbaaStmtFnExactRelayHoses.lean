/- The pure statement of FnExactRelayHoses. -/
import Derived.Test.YtjffblojognlbaaPx30
import Derived.Test.YtjffblojognlbaaTypes
namespace Go.Proofs.Ytjffblojognlbaa
open Go.RowKit Go.Proofs.YtjffblojognlbaaW.PrintWords
/-- What is left of the statement: numbers and lists alone. -/
def FnExactRelayHoses.Said : Prop := ∀ (l0 : List P.S77) (a1 : Int), (l0.length ≤ maxLen ∧ ∀ y ∈ l0, Wf77 y) → (Lit.int .i64 a1).wf = true → ∃ k, P.laws_FnExactRelayHoses.f k l0 a1 = some true
end Go.Proofs.Ytjffblojognlbaa
