/- The pure statement of FnExactFlatProfile. -/
import Derived.Test.YtjffblojognlbaaPx17
import Derived.Test.YtjffblojognlbaaTypes
namespace Go.Proofs.Ytjffblojognlbaa
open Go.RowKit Go.Proofs.YtjffblojognlbaaW.PrintWords
/-- What is left of the statement: numbers and lists alone. -/
def FnExactFlatProfile.Said : Prop := ∀ (a0 : Int) (a1 : Int), (Lit.int .i64 a0).wf = true → (Lit.int .i64 a1).wf = true → ∃ k, P.laws_FnExactFlatProfile.f k a0 a1 = some true
end Go.Proofs.Ytjffblojognlbaa
