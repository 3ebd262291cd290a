/- The pure statement of FnExactMayChange. -/
import Derived.Test.YteinfbfaijjknaaPx17
import Derived.Test.YteinfbfaijjknaaTypes
namespace Go.Proofs.Yteinfbfaijjknaa
open Go.RowKit Go.Proofs.YteinfbfaijjknaaW.PrintWords
/-- What is left of the statement: numbers and lists alone. -/
def FnExactMayChange.Said : Prop := ∀ (a0 : Int) (a1 : Int), (Lit.int .i64 a0).wf = true → (Lit.int .i64 a1).wf = true → ∃ k, P.laws_FnExactMayChange.f k a0 a1 = some true
end Go.Proofs.Yteinfbfaijjknaa
