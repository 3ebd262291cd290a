/- The pure statement of FnExactFindAppliance. -/
import Derived.Test.YteinfbfaijjknaaPx33
import Derived.Test.YteinfbfaijjknaaTypes
namespace Go.Proofs.Yteinfbfaijjknaa
open Go.RowKit Go.Proofs.YteinfbfaijjknaaW.PrintWords
/-- What is left of the statement: numbers and lists alone. -/
def FnExactFindAppliance.Said : Prop := ∀ (l0 : List P.S23) (a1 : ByteArray), (l0.length ≤ maxLen ∧ ∀ y ∈ l0, Wf23 y) → a1.size ≤ maxLen → ∃ k, P.laws_FnExactFindAppliance.f k l0 a1 = some true
end Go.Proofs.Yteinfbfaijjknaa
