/- The pure statement of FnExactGreatestRelayFlow. -/
import Derived.Test.YtjffblojognlbaaPx39
import Derived.Test.YtjffblojognlbaaTypes
namespace Go.Proofs.Ytjffblojognlbaa
open Go.RowKit Go.Proofs.YtjffblojognlbaaW.PrintWords
/-- What is left of the statement: numbers and lists alone. -/
def FnExactGreatestRelayFlow.Said : Prop := ∀ (l0 : List P.S77) (x1 : P.S23) (a2 : Int), (l0.length ≤ maxLen ∧ ∀ y ∈ l0, Wf77 y) → Wf23 x1 → (Lit.int .i64 a2).wf = true → ∃ k, P.laws_FnExactGreatestRelayFlow.f k l0 x1.f0 x1.f1 x1.f2 x1.f3 a2 = some true
end Go.Proofs.Ytjffblojognlbaa
