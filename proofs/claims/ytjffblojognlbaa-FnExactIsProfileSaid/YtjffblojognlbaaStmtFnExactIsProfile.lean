/- The pure statement of FnExactIsProfile. -/
import Derived.Test.YtjffblojognlbaaPx25
import Derived.Test.YtjffblojognlbaaTypes
namespace Go.Proofs.Ytjffblojognlbaa
open Go.RowKit Go.Proofs.YtjffblojognlbaaW.PrintWords
/-- What is left of the statement: numbers and lists alone. -/
def FnExactIsProfile.Said : Prop := ∀ (l0 : List P.S77), (l0.length ≤ maxLen ∧ ∀ y ∈ l0, Wf77 y) → ∃ k, P.laws_FnExactIsProfile.f k l0 = some true
end Go.Proofs.Ytjffblojognlbaa
