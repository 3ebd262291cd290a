/- RelayHoses: the plain law. Conditions: none. -/
import Derived.Test.YtjffblojognlbaaStmtFnExactRelayHoses
import Derived.Test.YtjffblojognlbaaProf
namespace Go.Proofs.Ytjffblojognlbaa
open Go.RowKit Go.Proofs.YtjffblojognlbaaW.PrintWords
set_option linter.unusedSimpArgs false
set_option linter.unusedVariables false
theorem hoses_div (d L : Int) (h0 : 0 ≤ d) (h2 : 1 ≤ L) : ((11 * d + 9) / 10 + L - 1) / L = (11 * d + 10 * L - 1) / (10 * L) := by
  have h : (11 * d + 9) / 10 + L - 1 = (11 * d + 10 * L - 1) / 10 := by omega
  rw [h, Int.ediv_ediv_of_nonneg (by omega)]
theorem hoCount_eq (d L : Int) (h0 : 0 ≤ d) (h1 : d ≤ 100000) (h2 : 1 ≤ L) (h3 : L ≤ 5000) : P.spec_hoCount.f d L = some ((11 * d + 10 * L - 1) / (10 * L)) := by
  have hq : 0 ≤ (11 * d + 9) / 10 ∧ (11 * d + 9) / 10 ≤ 110001 := by omega
  have hq2 : 0 ≤ ((11 * d + 9) / 10 + L - 1) / L ∧ ((11 * d + 9) / 10 + L - 1) / L ≤ 200000 := ⟨Int.ediv_nonneg (by omega) (by omega), Int.le_trans (Int.ediv_le_self _ (by omega)) (by omega)⟩
  simp only [P.spec_hoCount.f]
  rw [if_neg (by omega), w64 (x := 11 * d) (by omega) (by omega), w64 (x := 11 * d + 9) (by omega) (by omega), Int.tdiv_eq_ediv_of_nonneg (a := 11 * d + 9) (by omega), w64 (x := (11 * d + 9) / 10) (by omega) (by omega), w64 (x := (11 * d + 9) / 10 + L) (by omega) (by omega),
    w64 (x := (11 * d + 9) / 10 + L - 1) (by omega) (by omega), Int.tdiv_eq_ediv_of_nonneg (by omega), w64 (by omega) (by omega), hoses_div d L h0 h2]
theorem hosesFor_eq (d L : Int) (h0 : 0 ≤ d) (h1 : d ≤ 100000) (h2 : 1 ≤ L) (h3 : L ≤ 5000) : P.impl_HosesFor.f d L = some ((11 * d + 10 * L - 1) / (10 * L), true) := by
  have hq2 : 0 ≤ (11 * d + 10 * L - 1) / (10 * L) ∧ (11 * d + 10 * L - 1) / (10 * L) ≤ 2000000 := ⟨Int.ediv_nonneg (by omega) (by omega), Int.le_trans (Int.ediv_le_self _ (by omega)) (by omega)⟩
  simp only [P.impl_HosesFor.f, inside_eq, bind_if]
  rw [if_pos ⟨h0, h1⟩]
  simp only [if_true]
  rw [if_pos ⟨h2, h3⟩]
  simp only [if_true, P.impl_upTo.f]
  rw [w64 (x := 10 * L) (by omega) (by omega), if_neg (by omega), w64 (x := 11 * d) (by omega) (by omega), w64 (x := 11 * d + 10 * L) (by omega) (by omega), w64 (x := 11 * d + 10 * L - 1) (by omega) (by omega), Int.tdiv_eq_ediv_of_nonneg (by omega), w64 (by omega) (by omega)]
  rfl
theorem relayHoses_same (l : List Pt) (a : Int) (hin : PtsIn l) : ∃ v : Int × Bool, ∀ k, 60 < k → P.spec_RelayHoses.f k l a = some v ∧ P.impl_RelayHoses.f k l a = some v := by
  by_cases hp : profB l = true
  · obtain ⟨h1, h2, h3, h4⟩ := profB_spec l hp
    by_cases ha : 1 ≤ a ∧ a ≤ 5000
    · have h5 := (h4 (l.length - 1) (by omega)).1
      refine ⟨((11 * (pt l (l.length - 1)).f0 + 10 * a - 1) / (10 * a), true), fun k hk => ?_⟩
      simp only [P.spec_RelayHoses.f, P.impl_RelayHoses.f, ryProfile_eq l k (by omega), isProfile_eq l hin k (by omega), hp, Option.bind_some, if_true, l1In_eq, inside_eq, bind_if, eq_true ha, decide_true]
      rw [w64_pred (by omega) (by omega)]
      simp only [rd_pt, hoCount_eq _ a h5.1 (by omega) ha.1 ha.2, hosesFor_eq _ a h5.1 (by omega) ha.1 ha.2, Option.bind_some, eq_true (show (0 : Int) ≤ ((l.length - 1 : Nat) : Int) by omega), eq_true (show ((l.length - 1 : Nat) : Int) < (l.length : Int) by omega), if_true, and_self]
    · refine ⟨(0, false), fun k hk => ?_⟩
      simp only [P.spec_RelayHoses.f, P.impl_RelayHoses.f, ryProfile_eq l k (by omega), isProfile_eq l hin k (by omega), hp, Option.bind_some, if_true, l1In_eq, inside_eq, bind_if, eq_false ha, decide_false, if_false, Bool.false_eq_true, and_self]
  · refine ⟨(0, false), fun k hk => ?_⟩
    simp only [P.spec_RelayHoses.f, P.impl_RelayHoses.f, ryProfile_eq l k (by omega), isProfile_eq l hin k (by omega), Option.bind_some, if_neg hp, and_self]
theorem FnExactRelayHoses.pure : FnExactRelayHoses.Said := by
  intro l a ⟨hl, hw⟩ ha
  refine ⟨l.length + 101, ?_⟩
  simp only [P.laws_FnExactRelayHoses.f, szPointS_eq l hl, Option.bind_some]
  by_cases h : l.length ≤ 1048576
  · rw [if_pos h, if_neg (by omega)]
    obtain ⟨v, hv⟩ := relayHoses_same (l.map toPt) a (ptsIn_map l hw)
    obtain ⟨hv1, hv2⟩ := hv (l.length + 101) (by omega)
    simp only [toPointS_eq l h (l.length + 101) (by omega), Option.bind_some, hv1, hv2, if_true, P.laws_FnExactRelayHoses.j0, toPointS_eq l h (l.length + 100) (by omega), bne_self_eq_false, Bool.false_eq_true, if_false,
      eqPointS_refl (l.map toPt) (by simpa using h) (l.length + 100) (by simp)]
  · rw [if_neg h, if_pos (by omega)]
end Go.Proofs.Ytjffblojognlbaa
