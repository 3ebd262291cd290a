/- The pure statement of FnExactCrewTotal. -/
import Derived.Test.YteinfbfaijjknaaPx40
import Derived.Test.YteinfbfaijjknaaTypes
namespace Go.Proofs.Yteinfbfaijjknaa
open Go.RowKit Go.Proofs.YteinfbfaijjknaaW.PrintWords
/-- What is left of the statement: numbers and lists alone. -/
def FnExactCrewTotal.Said : Prop := ∀ (l0 : List P.S23), (l0.length ≤ maxLen ∧ ∀ y ∈ l0, Wf23 y) → ∃ k, P.laws_FnExactCrewTotal.f k l0 = some true
end Go.Proofs.Yteinfbfaijjknaa
