/- The pure statement of FnExactIsFleet. -/
import Derived.Test.YteinfbfaijjknaaPx37
import Derived.Test.YteinfbfaijjknaaTypes
namespace Go.Proofs.Yteinfbfaijjknaa
open Go.RowKit Go.Proofs.YteinfbfaijjknaaW.PrintWords
/-- What is left of the statement: numbers and lists alone. -/
def FnExactIsFleet.Said : Prop := ∀ (l0 : List P.S23), (l0.length ≤ maxLen ∧ ∀ y ∈ l0, Wf23 y) → ∃ k, P.laws_FnExactIsFleet.f k l0 = some true
end Go.Proofs.Yteinfbfaijjknaa
