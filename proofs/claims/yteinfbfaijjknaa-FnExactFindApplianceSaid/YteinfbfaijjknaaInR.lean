/- 'inside' on both sides. Conditions: none. -/
import Derived.Test.YteinfbfaijjknaaKit
import Derived.Test.YteinfbfaijjknaaPx4
import Derived.Test.YteinfbfaijjknaaPx1
namespace Go.Proofs.Yteinfbfaijjknaa
open Go.RowKit Go.Proofs.YteinfbfaijjknaaW.PrintWords
theorem inside_eq (a b c : Int) : P.impl_inside.f a b c = some (decide (b ≤ a ∧ a ≤ c)) := by
  unfold P.impl_inside.f
  split
  · exact some_dec (by omega)
  · exact some_f (by omega)
theorem l1In_eq (a b c : Int) : P.spec_l1In.f a b c = some (decide (b ≤ a ∧ a ≤ c)) := by
  unfold P.spec_l1In.f
  split
  · exact some_dec (by omega)
  · exact some_f (by omega)
theorem inside_l1In (a b c : Int) : P.impl_inside.f a b c = P.spec_l1In.f a b c := by rw [inside_eq, l1In_eq]
theorem w64_pred {i : Nat} (h : 0 < i) (hh : i < 4611686018427387904) : wrap64 ((i : Int) - 1) = ((i - 1 : Nat) : Int) := by
  unfold wrap64
  omega
end Go.Proofs.Yteinfbfaijjknaa
