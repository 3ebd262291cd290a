/- Both sides say the same of a profile; and what a profile is. Conditions: none. -/
import Derived.Test.YtjffblojognlbaaBaseRelay
import Derived.Test.YtjffblojognlbaaPts
import Derived.Test.YtjffblojognlbaaPx14
import Derived.Test.YtjffblojognlbaaPx17
namespace Go.Proofs.Ytjffblojognlbaa
open Go.RowKit Go.Proofs.YtjffblojognlbaaW.PrintWords
set_option linter.unusedSimpArgs false
set_option linter.unusedVariables false
/-- Point number j. -/
def pt (l : List Pt) (j : Nat) : Pt := l.getD j P.z71
theorem rd_pt (l : List Pt) (j : Nat) : P.rd_T71 l (j : Int) = pt l j := by simp [P.rd_T71, pt]
def ptOk (l : List Pt) (j : Nat) : Bool := decide ((0 ≤ (pt l j).f0 ∧ (pt l j).f0 ≤ 50000) ∧ (-2000 ≤ (pt l j).f1 ∧ (pt l j).f1 ≤ 2000) ∧ (0 < j → 1 ≤ (pt l j).f0 - (pt l (j - 1)).f0 ∧ (pt l j).f0 - (pt l (j - 1)).f0 ≤ 5000))
/-- A profile. -/
def profB (l : List Pt) : Bool := decide (2 ≤ l.length ∧ l.length ≤ 40 ∧ (pt l 0).f0 = 0) && allFrom (ptOk l) l.length 0
/-- Its numbers are those of int. -/
def PtsIn (l : List Pt) : Prop := ∀ j, j < l.length → (-9223372036854775808 ≤ (pt l j).f0 ∧ (pt l j).f0 ≤ 9223372036854775807) ∧ (-9223372036854775808 ≤ (pt l j).f1 ∧ (pt l j).f1 ≤ 9223372036854775807)
theorem w64_pred {i : Nat} (h : 0 < i) (hh : i < 4611686018427387904) : wrap64 ((i : Int) - 1) = ((i - 1 : Nat) : Int) := by
  unfold wrap64
  omega

theorem ryProfile_l0 (l : List Pt) (hl : l.length ≤ 40) : ∀ (d i k : Nat), i + d = l.length → d < k → (∀ j, j < i → ptOk l j = true) → P.spec_ryProfile.l0 k l l (l.length : Int) i = some (allFrom (ptOk l) d i) := by
  refine all_loop (F := fun k i => P.spec_ryProfile.l0 k l l (l.length : Int) i) (n := l.length) (ptOk l) (fun k i hi hj => ?_) (fun k => ?_)
  · simp only [P.spec_ryProfile.l0]
    rw [if_pos (by omega), if_pos (by omega), if_pos (by omega)]
    simp only [l1In_eq, bind_if, rd_pt, if_true, if_false, Bool.false_eq_true]
    rw [w64_succ (by omega)]
    by_cases hp : ptOk l i = true
    · rw [if_pos hp]
      simp only [ptOk, decide_eq_true_eq] at hp
      obtain ⟨h1, h2, h4⟩ := hp
      rw [if_pos h1, if_pos h2]
      by_cases h3 : 0 < i
      · have hq := hj (i - 1) (by omega)
        simp only [ptOk, decide_eq_true_eq] at hq
        rw [if_pos (by omega), w64_pred h3 (by omega), if_pos (by omega), if_pos (by omega), rd_pt, w64 (by omega) (by omega), if_pos (h4 h3)]
      · rw [if_neg (by omega)]
    · rw [if_neg hp]
      simp only [ptOk, decide_eq_true_eq] at hp
      by_cases h1 : 0 ≤ (pt l i).f0 ∧ (pt l i).f0 ≤ 50000
      · rw [if_pos h1]
        by_cases h2 : -2000 ≤ (pt l i).f1 ∧ (pt l i).f1 ≤ 2000
        · rw [if_pos h2]
          have h3 : 0 < i := Nat.pos_of_ne_zero (fun h => hp ⟨h1, h2, fun h' => by omega⟩)
          have hq := hj (i - 1) (by omega)
          simp only [ptOk, decide_eq_true_eq] at hq
          rw [if_pos (by omega), w64_pred h3 (by omega), if_pos (by omega), if_pos (by omega), rd_pt, w64 (by omega) (by omega), if_neg (fun h => hp ⟨h1, h2, fun _ => h⟩)]
        · rw [if_neg h2]
      · rw [if_neg h1]
  · simp only [P.spec_ryProfile.l0]
    rw [if_neg (by omega)]
theorem ryProfile_eq (l : List Pt) (k : Nat) (hk : 50 < k) : P.spec_ryProfile.f k l = some (profB l) := by
  obtain ⟨k, rfl⟩ : ∃ m, k = m + 1 := ⟨k - 1, by omega⟩
  simp only [P.spec_ryProfile.f, l1In_eq, bind_if]
  by_cases h1 : 2 ≤ (l.length : Int) ∧ (l.length : Int) ≤ 40
  · rw [if_pos h1]
    simp only [if_true]
    rw [if_pos (by omega)]
    have h0 : P.rd_T71 l 0 = pt l 0 := rd_pt l 0
    rw [h0]
    simp only [P.spec_ryProfile.j0]
    by_cases h2 : (pt l 0).f0 = 0
    · rw [if_neg (by simp [h2])]
      have := ryProfile_l0 l (by omega) l.length 0 k (by omega) (by omega) (fun j hj => by omega)
      rw [show ((0 : Nat) : Int) = 0 from rfl] at this
      rw [this, profB, decide_eq_true (by omega), Bool.true_and]
    · rw [if_pos (by simpa using h2), profB, decide_eq_false (by omega), Bool.false_and]
  · rw [if_neg h1]
    simp only [Bool.false_eq_true, if_false, P.spec_ryProfile.j0, if_true]
    rw [profB, decide_eq_false (by omega), Bool.false_and]

/-- The program's test of one point. -/
def ptOk2 (l : List Pt) (j : Nat) : Bool := decide ((-2000 ≤ (pt l j).f1 ∧ (pt l j).f1 ≤ 2000) ∧ (0 < j → 1 ≤ (pt l j).f0 - (pt l (j - 1)).f0 ∧ (pt l j).f0 - (pt l (j - 1)).f0 ≤ 5000))
theorem along_upto (l : List Pt) (h0 : (pt l 0).f0 = 0) : ∀ i : Nat, (∀ j, j ≤ i → ptOk2 l j = true) → (i : Int) ≤ (pt l i).f0 ∧ (pt l i).f0 ≤ 5000 * i := by
  intro i
  induction i with
  | zero => intro _; simp [h0]
  | succ i ih =>
    intro h
    have := ih (fun j hj => h j (by omega))
    have h1 := h (i + 1) (Nat.le_refl _)
    simp only [ptOk2, decide_eq_true_eq] at h1
    have h2 := h1.2 (by omega)
    rw [Nat.add_sub_cancel] at h2
    omega
theorem isProfile_l0 (l : List Pt) (hin : PtsIn l) (h0 : (pt l 0).f0 = 0) (hl : l.length ≤ 40) : ∀ (d i k : Nat), i + d = l.length → d < k → (∀ j, j < i → ptOk2 l j = true) → P.impl_isProfile.l0 k l l (l.length : Int) i = some (allFrom (ptOk2 l) d i) := by
  refine all_loop (F := fun k i => P.impl_isProfile.l0 k l l (l.length : Int) i) (n := l.length) (ptOk2 l) (fun k i hi hj => ?_) (fun k => ?_)
  · simp only [P.impl_isProfile.l0]
    rw [if_pos (by omega), if_pos (by omega), if_pos (by omega)]
    simp only [inside_eq, bind_if, rd_pt, if_true, if_false, Bool.false_eq_true]
    rw [w64_succ (by omega)]
    have hb := (hin i hi).1
    by_cases hp : ptOk2 l i = true
    · rw [if_pos hp]
      simp only [ptOk2, decide_eq_true_eq] at hp
      obtain ⟨h2, h4⟩ := hp
      rw [if_pos h2]
      by_cases h3 : 0 < i
      · have hq := along_upto l h0 (i - 1) (fun j hj' => hj j (by omega))
        have := h4 h3
        rw [if_pos (by omega), w64_pred h3 (by omega), if_pos (by omega), if_pos (by omega), rd_pt, w64 (by omega) (by omega), if_pos (h4 h3)]
      · rw [if_neg (by omega)]
    · rw [if_neg hp]
      simp only [ptOk2, decide_eq_true_eq] at hp
      by_cases h2 : -2000 ≤ (pt l i).f1 ∧ (pt l i).f1 ≤ 2000
      · rw [if_pos h2]
        have h3 : 0 < i := Nat.pos_of_ne_zero (fun h => hp ⟨h2, fun h' => by omega⟩)
        have hq := along_upto l h0 (i - 1) (fun j hj' => hj j (by omega))
        have h5 : ¬ (1 ≤ (pt l i).f0 - (pt l (i - 1)).f0 ∧ (pt l i).f0 - (pt l (i - 1)).f0 ≤ 5000) := fun h => hp ⟨h2, fun _ => h⟩
        rw [if_pos (by omega), w64_pred h3 (by omega), if_pos (by omega), if_pos (by omega), rd_pt, if_neg (by unfold wrap64; omega)]
      · rw [if_neg h2]
  · simp only [P.impl_isProfile.l0]
    rw [if_neg (by omega)]
theorem both_all (l : List Pt) (h0 : (pt l 0).f0 = 0) (hl : 0 < l.length) (hl2 : l.length ≤ 40) : allFrom (ptOk l) l.length 0 = (decide ((pt l (l.length - 1)).f0 ≤ 50000) && allFrom (ptOk2 l) l.length 0) := by
  rw [Bool.eq_iff_iff, Bool.and_eq_true, allFrom_iff, allFrom_iff, decide_eq_true_eq]
  constructor
  · intro h
    refine ⟨?_, fun j h1 h2 => ?_⟩
    · have := h (l.length - 1) (by omega) (by omega)
      simp only [ptOk, decide_eq_true_eq] at this
      omega
    · have := h j h1 h2
      simp only [ptOk, ptOk2, decide_eq_true_eq] at this ⊢
      exact this.2
  · intro ⟨h1, h⟩ j hj1 hj2
    have hu := along_upto l h0 j (fun q hq => h q (by omega) (by omega))
    have hmono : ∀ d, j + d < l.length → (pt l j).f0 ≤ (pt l (j + d)).f0 := by
      intro d
      induction d with
      | zero => intro _; exact Int.le_refl _
      | succ d ih =>
        intro hd
        have h3 := h (j + (d + 1)) (by omega) (by omega)
        simp only [ptOk2, decide_eq_true_eq] at h3
        have h4 := h3.2 (by omega)
        rw [show j + (d + 1) - 1 = j + d by omega] at h4
        have := ih (by omega)
        omega
    have h5 := hmono (l.length - 1 - j) (by omega)
    rw [show j + (l.length - 1 - j) = l.length - 1 by omega] at h5
    have h6 := h j hj1 hj2
    simp only [ptOk, ptOk2, decide_eq_true_eq] at h6 ⊢
    exact ⟨by omega, h6⟩
theorem isProfile_eq (l : List Pt) (hin : PtsIn l) (k : Nat) (hk : 50 < k) : P.impl_isProfile.f k l = some (profB l) := by
  obtain ⟨k, rfl⟩ : ∃ m, k = m + 1 := ⟨k - 1, by omega⟩
  simp only [P.impl_isProfile.f, inside_eq, bind_if]
  by_cases h1 : 2 ≤ (l.length : Int) ∧ (l.length : Int) ≤ 40
  · rw [if_pos h1]
    simp only [if_true]
    rw [if_pos (by omega)]
    have h0 : P.rd_T71 l 0 = pt l 0 := rd_pt l 0
    rw [h0]
    by_cases h2 : (pt l 0).f0 = 0
    · rw [if_pos h2, w64_pred (by omega) (by omega), if_pos (by omega), if_pos (by omega), rd_pt]
      simp only [P.impl_isProfile.j0]
      have := isProfile_l0 l hin h2 (by omega) l.length 0 k (by omega) (by omega) (fun j hj => by omega)
      rw [show ((0 : Nat) : Int) = 0 from rfl] at this
      have hd : decide (2 ≤ l.length ∧ l.length ≤ 40 ∧ (pt l 0).f0 = 0) = true := decide_eq_true (by omega)
      rw [profB, hd, Bool.true_and, both_all l h2 (by omega) (by omega)]
      by_cases h3 : (pt l (l.length - 1)).f0 ≤ 50000
      · rw [if_neg (by simp; omega), this, decide_eq_true h3, Bool.true_and]
      · rw [if_pos (by simp; omega), decide_eq_false h3, Bool.false_and]
    · rw [if_neg h2]
      simp only [P.impl_isProfile.j0, if_true]
      rw [profB, decide_eq_false (by omega), Bool.false_and]
  · rw [if_neg h1]
    simp only [Bool.false_eq_true, if_false, P.impl_isProfile.j0, if_true]
    rw [profB, decide_eq_false (by omega), Bool.false_and]
/-- The copies of an argument. -/
theorem ptsIn_map (l : List LPt) (h : ∀ x ∈ l, Wf77 x) : PtsIn (l.map toPt) := by
  intro j hj
  have hj' : j < l.length := by simpa using hj
  have hx := h (l[j]) (List.getElem_mem hj')
  have e : pt (l.map toPt) j = toPt l[j] := by simp [pt, List.getD_eq_getElem?_getD, List.getElem?_eq_getElem hj']
  rw [e]
  exact ⟨bound_i64 hx.1, bound_i64 hx.2⟩
/-- What a profile is. -/
theorem profB_spec (l : List Pt) (h : profB l = true) : 2 ≤ l.length ∧ l.length ≤ 40 ∧ (pt l 0).f0 = 0 ∧ ∀ j, j < l.length → (0 ≤ (pt l j).f0 ∧ (pt l j).f0 ≤ 50000) ∧ (-2000 ≤ (pt l j).f1 ∧ (pt l j).f1 ≤ 2000) ∧ (0 < j → 1 ≤ (pt l j).f0 - (pt l (j - 1)).f0 ∧ (pt l j).f0 - (pt l (j - 1)).f0 ≤ 5000) := by
  simp only [profB, Bool.and_eq_true, decide_eq_true_eq, allFrom_iff] at h
  obtain ⟨⟨h1, h2, h3⟩, h4⟩ := h
  refine ⟨h1, h2, h3, fun j hj => ?_⟩
  have := h4 j (by omega) (by omega)
  simp only [ptOk, decide_eq_true_eq] at this
  exact this
end Go.Proofs.Ytjffblojognlbaa
