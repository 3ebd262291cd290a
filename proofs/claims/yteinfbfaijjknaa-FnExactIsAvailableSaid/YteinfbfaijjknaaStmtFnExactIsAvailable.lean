/- The pure statement of FnExactIsAvailable. -/
import Derived.Test.YteinfbfaijjknaaPx10
import Derived.Test.YteinfbfaijjknaaTypes
namespace Go.Proofs.Yteinfbfaijjknaa
open Go.RowKit Go.Proofs.YteinfbfaijjknaaW.PrintWords
/-- What is left of the statement: numbers and lists alone. -/
def FnExactIsAvailable.Said : Prop := ∀ (x0 : P.S23), Wf23 x0 → ∃ k, P.laws_FnExactIsAvailable.f k x0.f0 x0.f1 x0.f2 x0.f3 x0.f4 = some true
end Go.Proofs.Yteinfbfaijjknaa
