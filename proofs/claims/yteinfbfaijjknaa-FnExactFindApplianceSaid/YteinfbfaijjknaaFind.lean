/- The appliance with a name: both sides say the same. Conditions: none beyond those of each lemma. -/
import Derived.Test.YteinfbfaijjknaaAp
import Derived.Test.YteinfbfaijjknaaPx31
import Derived.Test.YteinfbfaijjknaaPx29
namespace Go.Proofs.Yteinfbfaijjknaa
open Go.RowKit Go.Proofs.YteinfbfaijjknaaW.PrintWords
set_option linter.unusedSimpArgs false
set_option linter.unusedVariables false
def findFrom (l : List Ap) (s : ByteArray) : Nat → Nat → Int
  | 0, _ => -1
  | d + 1, i => if (ap l i).f0.toList = s.toList then (i : Int) else findFrom l s d (i + 1)
def findV (l : List Ap) (s : ByteArray) : Int := findFrom l s l.length 0
theorem findFrom_range (l : List Ap) (s : ByteArray) : ∀ d i, findFrom l s d i = -1 ∨ ((i : Int) ≤ findFrom l s d i ∧ findFrom l s d i < i + d)
  | 0, _ => .inl rfl
  | d + 1, i => by
    simp only [findFrom]
    split
    · right; omega
    · rcases findFrom_range l s d (i + 1) with h | h
      · exact .inl h
      · right; omega
theorem findV_range (l : List Ap) (s : ByteArray) : findV l s = -1 ∨ (0 ≤ findV l s ∧ findV l s < l.length) := by
  rcases findFrom_range l s l.length 0 with h | h
  · exact .inl h
  · right; unfold findV; omega
theorem apFind_eq (l : List Ap) (hl : l.length ≤ 1048576) (s : ByteArray) (k : Nat) (hk : l.length < k) : P.spec_apFind.f k l s = some (findV l s) := by
  have key : ∀ (d i k : Nat), i + d = l.length → d < k → P.spec_apFind.l0 k s l (l.length : Int) i = some (findFrom l s d i) := by
    intro d
    induction d with
    | zero =>
      intro i k h hk
      obtain ⟨k, rfl⟩ : ∃ m, k = m + 1 := ⟨k - 1, by omega⟩
      simp only [P.spec_apFind.l0]
      rw [if_neg (by omega)]
      rfl
    | succ d ih =>
      intro i k h hk
      obtain ⟨k, rfl⟩ : ∃ m, k = m + 1 := ⟨k - 1, by omega⟩
      simp only [P.spec_apFind.l0]
      rw [if_pos (by omega), if_pos (by omega), if_pos (by omega), rd_ap, w64_succ (by omega)]
      simp only [findFrom]
      by_cases hm : (ap l i).f0.toList = s.toList
      · rw [if_pos hm, if_pos hm]
      · rw [if_neg hm, if_neg hm]
        exact ih (i + 1) k (by omega) (by omega)
  exact key l.length 0 k (by omega) hk
theorem findAppliance_eq (l : List Ap) (hl : l.length ≤ 1048576) (s : ByteArray) (k : Nat) (hk : l.length < k) : P.impl_findAppliance.f k l s = some (findV l s) := by
  have key : ∀ (d i k : Nat), i + d = l.length → d < k → P.impl_findAppliance.l0 k l s i = some (findFrom l s d i) := by
    intro d
    induction d with
    | zero =>
      intro i k h hk
      obtain ⟨k, rfl⟩ : ∃ m, k = m + 1 := ⟨k - 1, by omega⟩
      simp only [P.impl_findAppliance.l0]
      rw [if_neg (by omega)]
      rfl
    | succ d ih =>
      intro i k h hk
      obtain ⟨k, rfl⟩ : ∃ m, k = m + 1 := ⟨k - 1, by omega⟩
      simp only [P.impl_findAppliance.l0]
      rw [if_pos (by omega), if_pos (by omega), rd_ap, w64_succ (by omega)]
      simp only [findFrom]
      by_cases hm : (ap l i).f0.toList = s.toList
      · rw [if_pos hm, if_pos hm]
      · rw [if_neg hm, if_neg hm]
        exact ih (i + 1) k (by omega) (by omega)
  exact key l.length 0 k (by omega) hk
end Go.Proofs.Yteinfbfaijjknaa
