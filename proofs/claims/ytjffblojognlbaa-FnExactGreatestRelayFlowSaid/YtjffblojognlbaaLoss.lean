/- The loss of a hose: both sides. Conditions: none. -/
import Derived.Test.YtjffblojognlbaaHoseMath
import Derived.Test.YtjffblojognlbaaPx30
import Derived.Test.YtjffblojognlbaaPx26
namespace Go.Proofs.Ytjffblojognlbaa
open Go.RowKit Go.Proofs.YtjffblojognlbaaW.PrintWords
set_option linter.unusedSimpArgs false
set_option linter.unusedVariables false
theorem lossOf_wraps {k len flow : Int} (h0 : 0 ≤ flow) (h1 : flow ≤ 3000) (h2 : 0 ≤ len) (h3 : len ≤ 5000) :
    wrap64 (wrap64 (wrap64 (facOf k * flow) * flow) * len) = facOf k * (flow * flow * len) ∧ 0 ≤ facOf k * (flow * flow * len) ∧ facOf k * (flow * flow * len) ≤ 225000000000000 := by
  have a := mul_bd h0 h1 h0 h1
  have b := mul_bd a.1 a.2 h2 h3
  have f := facOf_bd k
  have c := mul_bd (by omega : 0 ≤ facOf k) f.2 b.1 b.2
  have d := mul_bd (by omega : 0 ≤ facOf k) f.2 h0 h1
  have e := mul_bd (by omega : 0 ≤ facOf k) f.2 a.1 a.2
  rw [w64 (x := facOf k * flow) (by omega) (by omega), Int.mul_assoc (facOf k) flow flow, w64 (x := facOf k * (flow * flow)) (by omega) (by omega), Int.mul_assoc (facOf k), w64 (by omega) (by omega)]
  exact ⟨rfl, by omega, by omega⟩
theorem hoseLoss_eq {k len flow : Int} (hk : 0 ≤ k ∧ k ≤ 3) (h0 : 0 ≤ flow) (h1 : flow ≤ 3000) (h2 : 0 ≤ len) (h3 : len ≤ 5000) : P.impl_hoseLoss.f k len flow = some (lossOf k len flow) := by
  have h := lossOf_wraps (k := k) h0 h1 h2 h3
  simp only [P.impl_hoseLoss.f, P.impl_upTo.f]
  rw [if_pos hk.1, if_pos (by omega), show P.impl_hoseLoss.fac k = facOf k from rfl, h.1, if_neg (by omega)]
  obtain ⟨_, h4, h5⟩ := h
  generalize hg : facOf k * (flow * flow * len) = X at h4 h5 ⊢
  rw [w64 (x := X + 100000000) (by omega) (by omega), w64 (x := X + 100000000 - 1) (by omega) (by omega), Int.tdiv_eq_ediv_of_nonneg (by omega), w64 (by omega) (by omega)]
  unfold lossOf
  rw [hg]
  congr 1
  omega
theorem hoLoss_eq {k len flow : Int} (hk : 0 ≤ k ∧ k ≤ 3) (h0 : 0 ≤ flow) (h1 : flow ≤ 3000) (h2 : 0 ≤ len) (h3 : len ≤ 5000) : P.spec_hoLoss.f k len flow = some (lossOf k len flow) := by
  have h := lossOf_wraps (k := k) h0 h1 h2 h3
  have hr : rd [3, 20, 160, 5000] k = facOf k := by
    have : k = 0 ∨ k = 1 ∨ k = 2 ∨ k = 3 := by omega
    rcases this with rfl | rfl | rfl | rfl <;> rfl
  simp only [P.spec_hoLoss.f, P.spec_hoFactors.f, Option.bind_some, List.length_cons, List.length_nil]
  rw [if_pos hk.1, if_pos (by omega), hr, h.1]
  obtain ⟨_, h4, h5⟩ := h
  generalize hg : facOf k * (flow * flow * len) = X at h4 h5 ⊢
  rw [w64 (x := X + 99999999) (by omega) (by omega), Int.tdiv_eq_ediv_of_nonneg (by omega), w64 (by omega) (by omega)]
  unfold lossOf
  rw [hg]
end Go.Proofs.Ytjffblojognlbaa
