/- CrewTotal: the plain law. Conditions: none. -/
import Derived.Test.YteinfbfaijjknaaStmtFnExactCrewTotal
import Derived.Test.YteinfbfaijjknaaAp
namespace Go.Proofs.Yteinfbfaijjknaa
open Go.RowKit Go.Proofs.YteinfbfaijjknaaW.PrintWords
set_option linter.unusedSimpArgs false
set_option linter.unusedVariables false
theorem crew_same : ∀ (k : Nat) (s : Int) (l : List Ap) (n i : Int), P.impl_CrewTotal.l0 k s l n i = P.spec_CrewTotal.l0 k s l n i
  | 0, _, _, _, _ => rfl
  | k + 1, s, l, n, i => by simp only [P.impl_CrewTotal.l0, P.spec_CrewTotal.l0, crew_same k]
theorem crew_ends (l : List Ap) (hl : l.length ≤ 1048576) : ∀ (d i : Nat) (s : Int), i + d = l.length → ∃ r : Int, ∀ k, d < k → P.spec_CrewTotal.l0 k s l (l.length : Int) i = some (r, true) := by
  intro d
  induction d with
  | zero =>
    intro i s h
    refine ⟨s, fun k hk => ?_⟩
    obtain ⟨k, rfl⟩ : ∃ m, k = m + 1 := ⟨k - 1, by omega⟩
    simp only [P.spec_CrewTotal.l0]
    rw [if_neg (by omega)]
  | succ d ih =>
    intro i s h
    by_cases hc : (ap l i).f4 = 5
    · obtain ⟨r, hr⟩ := ih (i + 1) s (by omega)
      refine ⟨r, fun k hk => ?_⟩
      obtain ⟨k, rfl⟩ : ∃ m, k = m + 1 := ⟨k - 1, by omega⟩
      simp only [P.spec_CrewTotal.l0]
      rw [if_pos (by omega), if_pos (by omega), if_pos (by omega), rd_ap, if_pos hc, w64_succ (by omega)]
      exact hr k (by omega)
    · obtain ⟨r, hr⟩ := ih (i + 1) (wrap64 (s + (ap l i).f3)) (by omega)
      refine ⟨r, fun k hk => ?_⟩
      obtain ⟨k, rfl⟩ : ∃ m, k = m + 1 := ⟨k - 1, by omega⟩
      simp only [P.spec_CrewTotal.l0]
      rw [if_pos (by omega), if_pos (by omega), if_pos (by omega), rd_ap, if_neg hc, w64_succ (by omega)]
      exact hr k (by omega)
theorem crewTotal_same (l : List Ap) (hs : Short l) : ∃ v : Int × Bool, ∀ k, 2100000 < k → P.spec_CrewTotal.f k l = some v ∧ P.impl_CrewTotal.f k l = some v := by
  have hl := hs.1
  by_cases hp : fleetB l = true
  · obtain ⟨r, hr⟩ := crew_ends l hl l.length 0 0 (by omega)
    refine ⟨(r, true), fun k hk => ?_⟩
    have := hr k (by omega)
    rw [show ((0 : Nat) : Int) = 0 from rfl] at this
    simp only [P.spec_CrewTotal.f, P.impl_CrewTotal.f, apFleet_eq l hs k hk, isFleet_eq l hs k hk, hp, Option.bind_some, if_true, crew_same, this, and_self]
  · refine ⟨(0, false), fun k hk => ?_⟩
    simp only [P.spec_CrewTotal.f, P.impl_CrewTotal.f, apFleet_eq l hs k hk, isFleet_eq l hs k hk, Option.bind_some, if_neg hp, and_self]
theorem FnExactCrewTotal.pure : FnExactCrewTotal.Said := by
  intro l ⟨hl, hw⟩
  obtain ⟨r, hr, hz⟩ := szApplianceS_eq l hl hw
  obtain ⟨k, hk⟩ : ∃ k : Nat, l.length + 2100001 ≤ k := ⟨_, Nat.le_refl _⟩
  refine ⟨k + 1, ?_⟩
  simp only [P.laws_FnExactCrewTotal.f, hz (k + 1) (by omega), Option.bind_some]
  by_cases h : 0 ≤ r
  · obtain ⟨h1, h2⟩ := hr h
    obtain ⟨v, hv⟩ := crewTotal_same _ h2
    obtain ⟨hv1, hv2⟩ := hv (k + 1) (by omega)
    rw [if_neg (by omega)]
    simp only [toApplianceS_eq l h1 (k + 1) (by omega), Option.bind_some, hv1, hv2, if_true, P.laws_FnExactCrewTotal.j0, toApplianceS_eq l h1 k (by omega),
      eqApplianceS_refl (l.map toAp) h2.1 k (by simp; omega), bne_self_eq_false, Bool.false_eq_true, if_false]
  · rw [if_pos (by omega)]
end Go.Proofs.Yteinfbfaijjknaa
