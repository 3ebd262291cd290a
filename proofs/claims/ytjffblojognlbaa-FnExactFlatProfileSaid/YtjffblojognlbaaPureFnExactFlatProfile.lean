/- FlatProfile: the plain law. Conditions: none. -/
import Derived.Test.YtjffblojognlbaaStmtFnExactFlatProfile
import Derived.Test.YtjffblojognlbaaBaseRelay
import Derived.Test.YtjffblojognlbaaPts
namespace Go.Proofs.Ytjffblojognlbaa
open Go.RowKit Go.Proofs.YtjffblojognlbaaW.PrintWords
set_option linter.unusedSimpArgs false
set_option linter.unusedVariables false

theorem flat_loop (x0 x1 : Int) (h1 : 1 ≤ x1) (h2 : x1 ≤ 5000) (h3 : x0 ≤ 50000) : ∀ (d : Nat) (out : List Pt) (a : Int), 0 ≤ a → x0 - a ≤ d → out.length + d ≤ 1000000 →
    ∃ r : List Pt, r.length ≤ out.length + d + 1 ∧ ∀ k, d < k → P.spec_FlatProfile.l0 k x0 x1 out a = some (r, true) ∧ P.impl_FlatProfile.l0 k x0 x1 out a = some (r, true) := by
  intro d
  induction d with
  | zero =>
    intro out a ha hd hl
    refine ⟨out ++ [⟨x0, 0⟩], by simp, fun k hk => ?_⟩
    obtain ⟨k, rfl⟩ : ∃ m, k = m + 1 := ⟨k - 1, by omega⟩
    simp only [P.spec_FlatProfile.l0, P.impl_FlatProfile.l0]
    rw [if_neg (by omega), if_pos (by omega), if_neg (by omega)]
    exact ⟨rfl, rfl⟩
  | succ d ih =>
    intro out a ha hd hl
    by_cases hc : a < x0
    · obtain ⟨r, hr, h⟩ := ih (out ++ [⟨a, 0⟩]) (a + x1) (by omega) (by omega) (by simp; omega)
      refine ⟨r, by simp at hr; omega, fun k hk => ?_⟩
      obtain ⟨k, rfl⟩ : ∃ m, k = m + 1 := ⟨k - 1, by omega⟩
      simp only [P.spec_FlatProfile.l0, P.impl_FlatProfile.l0]
      rw [if_pos hc, if_pos (by omega), if_pos hc, if_pos (by omega), w64 (by omega) (by omega)]
      exact h k (by omega)
    · refine ⟨out ++ [⟨x0, 0⟩], by simp, fun k hk => ?_⟩
      obtain ⟨k, rfl⟩ : ∃ m, k = m + 1 := ⟨k - 1, by omega⟩
      simp only [P.spec_FlatProfile.l0, P.impl_FlatProfile.l0]
      rw [if_neg hc, if_pos (by omega), if_neg hc]
      exact ⟨rfl, rfl⟩
theorem flat_same (a b : Int) (ha : -9223372036854775808 ≤ a ∧ a ≤ 9223372036854775807) (hb : -9223372036854775808 ≤ b ∧ b ≤ 9223372036854775807) :
    ∃ v : List Pt × Bool, v.1.length ≤ 100000 ∧ ∀ k, 60000 < k → P.spec_FlatProfile.f k a b = some v ∧ P.impl_FlatProfile.f k a b = some v := by
  by_cases hin : 1 ≤ a ∧ a ≤ 50000 ∧ 1 ≤ b ∧ b ≤ 5000
  · obtain ⟨h1, h2, h3, h4⟩ := hin
    have e1 : (1 ≤ a ∧ a ≤ 50000) = True := eq_true ⟨h1, h2⟩
    have e2 : (1 ≤ b ∧ b ≤ 5000) = True := eq_true ⟨h3, h4⟩
    have e3 : (b = 0) = False := eq_false (by omega)
    by_cases hg : wrap64 (Int.tdiv (wrap64 ((wrap64 (a + b)) - 1)) b) ≥ 40
    · refine ⟨([], false), by simp, fun k hk => ?_⟩
      obtain ⟨k, rfl⟩ : ∃ m, k = m + 1 := ⟨k - 1, by omega⟩
      have e4 : decide (wrap64 (Int.tdiv (wrap64 ((wrap64 (a + b)) - 1)) b) > 39) = true := decide_eq_true (by omega)
      simp only [P.spec_FlatProfile.f, P.impl_FlatProfile.f, l1In_eq, inside_eq, bind_if, P.impl_upTo.f, e1, e2, e3, if_true, if_false, Option.bind_some, P.spec_FlatProfile.j0, P.impl_FlatProfile.j0, e4, decide_eq_true hg]
      simp
    · obtain ⟨r, hr, h⟩ := flat_loop a b h3 h4 h2 50000 [] 0 (by omega) (by omega) (by simp)
      refine ⟨(r, true), by simp at hr ⊢; omega, fun k hk => ?_⟩
      obtain ⟨k, rfl⟩ : ∃ m, k = m + 1 := ⟨k - 1, by omega⟩
      have e4 : decide (wrap64 (Int.tdiv (wrap64 ((wrap64 (a + b)) - 1)) b) > 39) = false := decide_eq_false (by omega)
      simp only [P.spec_FlatProfile.f, P.impl_FlatProfile.f, l1In_eq, inside_eq, bind_if, P.impl_upTo.f, e1, e2, e3, if_true, if_false, Option.bind_some, P.spec_FlatProfile.j0, P.impl_FlatProfile.j0, e4, decide_eq_false hg, Bool.false_eq_true]
      exact h k (by omega)
  · refine ⟨([], false), by simp, fun k hk => ?_⟩
    obtain ⟨k, rfl⟩ : ∃ m, k = m + 1 := ⟨k - 1, by omega⟩
    simp only [P.spec_FlatProfile.f, P.impl_FlatProfile.f, l1In_eq, inside_eq, bind_if]
    by_cases h1 : 1 ≤ a ∧ a ≤ 50000
    · have h2 : ¬ (1 ≤ b ∧ b ≤ 5000) := by omega
      simp only [eq_true h1, eq_false h2, if_true, if_false, Bool.false_eq_true, P.spec_FlatProfile.j0, P.impl_FlatProfile.j0, and_self]
    · simp only [eq_false h1, if_true, if_false, Bool.false_eq_true, P.spec_FlatProfile.j0, P.impl_FlatProfile.j0, and_self]
theorem FnExactFlatProfile.pure : FnExactFlatProfile.Said := by
  intro a b ha hb
  obtain ⟨v, hv, h⟩ := flat_same a b (bound_i64 ha) (bound_i64 hb)
  refine ⟨200000 + 3, ?_⟩
  have hm := markPointS_eq v.1 (by omega) 200002 (by omega)
  have hh := heldPointS_eq v.1 (by omega) 200002 (by omega)
  have hh1 := heldPointS_eq v.1 (by omega) 200001 (by omega)
  have he := eqPointS_refl v.1 (by omega) 200003 (by omega)
  have he2 := eqPointS_refl v.1 (by omega) 200002 (by omega)
  simp only [P.laws_FnExactFlatProfile.f, (h 200003 (by omega)).1, (h 200003 (by omega)).2, Option.bind_some, he, if_true]
  simp only [P.laws_FnExactFlatProfile.j0, hm, hh, (h 200002 (by omega)).2, Option.bind_some, he2, if_true, bne_self_eq_false, Bool.false_eq_true, if_false]
  rw [if_neg (by omega)]
  simp only [P.laws_FnExactFlatProfile.j1, hh1, Option.bind_some, Bool.false_eq_true, if_false, if_true]
  rw [if_neg (by omega)]
end Go.Proofs.Ytjffblojognlbaa
