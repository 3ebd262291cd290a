/- FindAppliance: the plain law. Conditions: none. -/
import Derived.Test.YteinfbfaijjknaaStmtFnExactFindAppliance
import Derived.Test.YteinfbfaijjknaaFind
namespace Go.Proofs.Yteinfbfaijjknaa
open Go.RowKit Go.Proofs.YteinfbfaijjknaaW.PrintWords
set_option linter.unusedSimpArgs false
set_option linter.unusedVariables false
theorem findLaw_same (l : List Ap) (hs : Short l) (s : ByteArray) : ∃ v : Int × Bool, ∀ k, 2100000 < k → P.spec_FindAppliance.f k l s = some v ∧ P.impl_FindAppliance.f k l s = some v := by
  have hl := hs.1
  by_cases hp : fleetB l = true
  · rcases findV_range l s with hf | hf
    · refine ⟨(0, false), fun k hk => ?_⟩
      simp only [P.spec_FindAppliance.f, P.impl_FindAppliance.f, apFleet_eq l hs k hk, isFleet_eq l hs k hk, hp, Option.bind_some, if_true, apFind_eq l hl s k (by omega), findAppliance_eq l hl s k (by omega), hf]
      simp [mx]
    · refine ⟨(findV l s, true), fun k hk => ?_⟩
      simp only [P.spec_FindAppliance.f, P.impl_FindAppliance.f, apFleet_eq l hs k hk, isFleet_eq l hs k hk, hp, Option.bind_some, if_true, apFind_eq l hl s k (by omega), findAppliance_eq l hl s k (by omega)]
      rw [if_neg (by omega), decide_eq_true (by omega), mx, if_neg (by omega)]
      exact ⟨rfl, rfl⟩
  · refine ⟨(0, false), fun k hk => ?_⟩
    simp only [P.spec_FindAppliance.f, P.impl_FindAppliance.f, apFleet_eq l hs k hk, isFleet_eq l hs k hk, Option.bind_some, if_neg hp, and_self]
theorem FnExactFindAppliance.pure : FnExactFindAppliance.Said := by
  intro l s ⟨hl, hw⟩ hs
  obtain ⟨r, hr, hz⟩ := szApplianceS_eq l hl hw
  obtain ⟨k, hk⟩ : ∃ k : Nat, l.length + 2100001 ≤ k := ⟨_, Nat.le_refl _⟩
  refine ⟨k + 1, ?_⟩
  simp only [P.laws_FnExactFindAppliance.f]
  by_cases hb : (s.size : Int) > 1048576
  · rw [if_pos hb]
  · rw [if_neg hb]
    simp only [hz (k + 1) (by omega), Option.bind_some]
    by_cases h : 0 ≤ r
    · obtain ⟨h1, h2⟩ := hr h
      obtain ⟨v, hv⟩ := findLaw_same _ h2 s
      obtain ⟨hv1, hv2⟩ := hv (k + 1) (by omega)
      rw [if_neg (by omega)]
      simp only [toApplianceS_eq l h1 (k + 1) (by omega), Option.bind_some, hv1, hv2, if_true, P.laws_FnExactFindAppliance.j0, toApplianceS_eq l h1 k (by omega),
        eqApplianceS_refl (l.map toAp) h2.1 k (by simp; omega), bne_self_eq_false, Bool.false_eq_true, if_false]
    · rw [if_pos (by omega)]
end Go.Proofs.Yteinfbfaijjknaa
