/- Plain lemmas on the relay functions of both sides. -/
import Derived.Test.YtjffblojognlbaaKit
import Derived.Test.YtjffblojognlbaaPx3
import Derived.Test.YtjffblojognlbaaPx2
import Derived.Test.YtjffblojognlbaaPx2
namespace Go.Proofs.Ytjffblojognlbaa
open Go.RowKit Go.Proofs.YtjffblojognlbaaW.PrintWords
set_option linter.unusedSimpArgs false
set_option linter.unusedVariables false

theorem inside_eq (a b c : Int) : P.impl_inside.f a b c = some (decide (b ≤ a ∧ a ≤ c)) := by
  unfold P.impl_inside.f
  split
  · exact some_dec (by omega)
  · exact some_f (by omega)
theorem l1In_eq (a b c : Int) : P.spec_l1In.f a b c = some (decide (b ≤ a ∧ a ≤ c)) := by
  unfold P.spec_l1In.f
  split
  · exact some_dec (by omega)
  · exact some_f (by omega)
def relayOk (a b c d : Int) : Bool := decide (0 ≤ a ∧ a ≤ 3 ∧ 1 ≤ b ∧ b ≤ 3000 ∧ 100 ≤ c ∧ c ≤ 2000 ∧ 10 ≤ d ∧ d ≤ 500 ∧ d < c)
theorem ryGood_eq (a b c d : Int) : P.spec_ryGood.f a b c d = some (relayOk a b c d) := by
  simp only [P.spec_ryGood.f, l1In_eq, bind_if, relayOk, if_true, if_false, Bool.false_eq_true]
  repeat' split
  all_goals first | exact some_dec (by omega) | exact some_f (by omega)
theorem isRelay_eq (a b c d : Int) (hc : -9223372036854775808 ≤ c ∧ c ≤ 9223372036854775807) : P.impl_isRelay.f a b c d = some (relayOk a b c d) := by
  simp only [P.impl_isRelay.f, inside_eq, bind_if, relayOk, mn, if_true, if_false, Bool.false_eq_true, wrap64]
  repeat' split
  all_goals first | exact some_t (by omega) | exact some_f (by omega)

theorem toRelay_eq (a b c d : Int) : P.laws_toRelay.f a b c d = some (a, b, c, d) := rfl

end Go.Proofs.Ytjffblojognlbaa
