/- The pure statement of FnExactIsCase. -/
import Derived.Test.YtlfhedmmlfpekaaPx3
import Derived.Test.YtlfhedmmlfpekaaTypes
namespace Go.Proofs.Ytlfhedmmlfpekaa
open Go.RowKit Go.Proofs.YtlfhedmmlfpekaaW.PrintWords
/-- What is left of the statement: numbers and lists alone. -/
def FnExactIsCase.Said : Prop := ∀ (x0 : P.S23), Wf23 x0 → P.laws_FnExactIsCase.f x0.f0 x0.f1 x0.f2 = some true
end Go.Proofs.Ytlfhedmmlfpekaa
