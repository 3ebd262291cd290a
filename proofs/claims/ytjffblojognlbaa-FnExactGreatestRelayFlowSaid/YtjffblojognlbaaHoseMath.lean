/- Plain lemmas on losses of hoses and flows of branches, with no program in sight. Conditions: none. -/
import Derived.Test.YtjffblojognlbaaKit
namespace Go.Proofs.Ytjffblojognlbaa
open Go.RowKit
set_option linter.unusedSimpArgs false
set_option linter.unusedVariables false
theorem mul_bd {a b A B : Int} (ha : 0 ≤ a) (hA : a ≤ A) (hb : 0 ≤ b) (hB : b ≤ B) : 0 ≤ a * b ∧ a * b ≤ A * B :=
  ⟨Int.mul_nonneg ha hb, Int.mul_le_mul hA hB hb (by omega)⟩
def facOf (k : Int) : Int := if k = 0 then 3 else if k = 1 then 20 else if k = 2 then 160 else 5000
def lossOf (k len flow : Int) : Int := (facOf k * (flow * flow * len) + 99999999) / 100000000
theorem facOf_bd (k : Int) : 3 ≤ facOf k ∧ facOf k ≤ 5000 := by
  unfold facOf
  repeat' split
  all_goals omega
theorem lossOf_bd {k len flow : Int} (h0 : 0 ≤ flow) (h1 : flow ≤ 3000) (h2 : 0 ≤ len) (h3 : len ≤ 5000) : 0 ≤ lossOf k len flow ∧ lossOf k len flow ≤ 2250001 := by
  have a := mul_bd h0 h1 h0 h1
  have b := mul_bd a.1 a.2 h2 h3
  have f := facOf_bd k
  have c := mul_bd (by omega : 0 ≤ facOf k) f.2 b.1 b.2
  unfold lossOf
  omega
/-- m is the greatest flow, up to 3000, whose square a million times is at most S. -/
def IsFl (S m : Int) : Prop := 0 ≤ m ∧ m ≤ 3000 ∧ m * m * 1000000 ≤ S ∧ (m < 3000 → S < (m + 1) * (m + 1) * 1000000)
theorem sq_le {a b : Int} (h0 : 0 ≤ a) (h : a ≤ b) : a * a ≤ b * b := Int.mul_le_mul h h h0 (by omega)
theorem IsFl.uniq {S m n : Int} (h : IsFl S m) (h' : IsFl S n) : m = n := by
  obtain ⟨a0, a1, a2, a3⟩ := h
  obtain ⟨b0, b1, b2, b3⟩ := h'
  rcases Int.lt_trichotomy m n with g | g | g
  · have := sq_le (a := m + 1) (b := n) (by omega) (by omega)
    have := a3 (by omega)
    omega
  · exact g
  · have := sq_le (a := n + 1) (b := m) (by omega) (by omega)
    have := b3 (by omega)
    omega
theorem IsFl.ge {S m f : Int} (h : IsFl S m) (h0 : 0 ≤ f) (h1 : f ≤ 3000) : f ≤ m ↔ f * f * 1000000 ≤ S := by
  obtain ⟨a0, a1, a2, a3⟩ := h
  constructor
  · intro g
    have := sq_le h0 g
    omega
  · intro g
    refine Int.not_lt.1 fun g' => ?_
    have := sq_le (a := m + 1) (b := f) (by omega) (by omega)
    have := a3 (by omega)
    omega
end Go.Proofs.Ytjffblojognlbaa
