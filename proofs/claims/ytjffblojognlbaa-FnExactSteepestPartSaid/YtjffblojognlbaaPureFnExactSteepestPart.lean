/- SteepestPart: the plain law. Conditions: none. -/
import Derived.Test.YtjffblojognlbaaStmtFnExactSteepestPart
import Derived.Test.YtjffblojognlbaaProf
namespace Go.Proofs.Ytjffblojognlbaa
open Go.RowKit Go.Proofs.YtjffblojognlbaaW.PrintWords
set_option linter.unusedSimpArgs false
set_option linter.unusedVariables false
theorem steep_same : ∀ (k : Nat) (l : List Pt) (b i : Int), P.impl_SteepestPart.l0 k l b i = P.spec_SteepestPart.l0 k l b i
  | 0, _, _, _ => rfl
  | k + 1, l, b, i => by simp only [P.impl_SteepestPart.l0, P.spec_SteepestPart.l0, steep_same k]
theorem steep_ends (l : List Pt) (hl : l.length ≤ 40) : ∀ (d i b : Nat), i + d = l.length - 1 → b < i → i ≤ l.length - 1 → ∃ r : Nat, r < l.length - 1 ∧ ∀ k, d < k → P.spec_SteepestPart.l0 k l b i = some ((r : Int), true) := by
  intro d
  induction d with
  | zero =>
    intro i b h hb hi
    refine ⟨b, by omega, fun k hk => ?_⟩
    obtain ⟨k, rfl⟩ : ∃ m, k = m + 1 := ⟨k - 1, by omega⟩
    simp only [P.spec_SteepestPart.l0]
    rw [w64_succ (by omega), if_neg (by omega)]
  | succ d ih =>
    intro i b h hb hi
    obtain ⟨r1, hr1, h1⟩ := ih (i + 1) i (by omega) (by omega) (by omega)
    obtain ⟨r2, hr2, h2⟩ := ih (i + 1) b (by omega) (by omega) (by omega)
    by_cases hc : wrap64 ((wrap64 ((pt l (i + 1)).f1 - (pt l i).f1)) * (wrap64 ((pt l (b + 1)).f0 - (pt l b).f0))) > wrap64 ((wrap64 ((pt l (b + 1)).f1 - (pt l b).f1)) * (wrap64 ((pt l (i + 1)).f0 - (pt l i).f0)))
    · refine ⟨r1, hr1, fun k hk => ?_⟩
      obtain ⟨k, rfl⟩ : ∃ m, k = m + 1 := ⟨k - 1, by omega⟩
      simp only [P.spec_SteepestPart.l0]
      rw [w64_succ (i := i) (by omega), w64_succ (i := b) (by omega), if_pos (by omega), if_pos (by omega), if_pos (by omega), if_pos (by omega), if_pos (by omega), if_pos (by omega), if_pos (by omega), if_pos (by omega)]
      simp only [rd_pt]
      rw [if_pos hc]
      exact h1 k (by omega)
    · refine ⟨r2, hr2, fun k hk => ?_⟩
      obtain ⟨k, rfl⟩ : ∃ m, k = m + 1 := ⟨k - 1, by omega⟩
      simp only [P.spec_SteepestPart.l0]
      rw [w64_succ (i := i) (by omega), w64_succ (i := b) (by omega), if_pos (by omega), if_pos (by omega), if_pos (by omega), if_pos (by omega), if_pos (by omega), if_pos (by omega), if_pos (by omega), if_pos (by omega)]
      simp only [rd_pt]
      rw [if_neg hc]
      exact h2 k (by omega)
theorem steepest_same (l : List Pt) (hin : PtsIn l) : ∃ v : Int × Bool, (v.2 = profB l) ∧ (profB l = true → 0 ≤ v.1 ∧ v.1 < l.length - 1) ∧ ∀ k, 60 < k → P.spec_SteepestPart.f k l = some v ∧ P.impl_SteepestPart.f k l = some v := by
  by_cases hp : profB l = true
  · obtain ⟨h1, h2, h3, h4⟩ := profB_spec l hp
    obtain ⟨r, hr, h⟩ := steep_ends l h2 (l.length - 2) 1 0 (by omega) (by omega) (by omega)
    refine ⟨((r : Int), true), hp.symm, fun _ => ⟨by simp, by simp; omega⟩, fun k hk => ?_⟩
    have := h k (by omega)
    rw [show ((0 : Nat) : Int) = 0 from rfl, show ((1 : Nat) : Int) = 1 from rfl] at this
    simp only [P.spec_SteepestPart.f, P.impl_SteepestPart.f, ryProfile_eq l k (by omega), isProfile_eq l hin k (by omega), hp, Option.bind_some, if_true, steep_same, this, and_self]
  · refine ⟨(0, false), (Bool.eq_false_iff.2 hp).symm, fun h => absurd h hp, fun k hk => ?_⟩
    simp only [P.spec_SteepestPart.f, P.impl_SteepestPart.f, ryProfile_eq l k (by omega), isProfile_eq l hin k (by omega), Option.bind_some, if_neg hp, and_self]
theorem FnExactSteepestPart.pure : FnExactSteepestPart.Said := by
  intro l ⟨hl, hw⟩
  refine ⟨l.length + 101, ?_⟩
  simp only [P.laws_FnExactSteepestPart.f, szPointS_eq l hl, Option.bind_some]
  by_cases h : l.length ≤ 1048576
  · rw [if_pos h, if_neg (by omega)]
    obtain ⟨v, _, _, hv⟩ := steepest_same (l.map toPt) (ptsIn_map l hw)
    obtain ⟨hv1, hv2⟩ := hv (l.length + 101) (by omega)
    simp only [toPointS_eq l h (l.length + 101) (by omega), Option.bind_some, hv1, hv2, if_true, P.laws_FnExactSteepestPart.j0, toPointS_eq l h (l.length + 100) (by omega), bne_self_eq_false, Bool.false_eq_true, if_false,
      eqPointS_refl (l.map toPt) (by simpa using h) (l.length + 100) (by simp)]
  · rw [if_neg h, if_pos (by omega)]
end Go.Proofs.Ytjffblojognlbaa
