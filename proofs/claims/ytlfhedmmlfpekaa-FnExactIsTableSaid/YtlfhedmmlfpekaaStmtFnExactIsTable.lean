/- The pure statement of FnExactIsTable. -/
import Derived.Test.YtlfhedmmlfpekaaPx19
import Derived.Test.YtlfhedmmlfpekaaTypes
namespace Go.Proofs.Ytlfhedmmlfpekaa
open Go.RowKit Go.Proofs.YtlfhedmmlfpekaaW.PrintWords
/-- What is left of the statement: numbers and lists alone. -/
def FnExactIsTable.Said : Prop := ∀ (l0 : List P.S61), (l0.length ≤ maxLen ∧ ∀ y ∈ l0, Wf61 y) → ∃ k, P.laws_FnExactIsTable.f k l0 = some true
end Go.Proofs.Ytlfhedmmlfpekaa
