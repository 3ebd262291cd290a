/- Rows, cases and tables: both sides say the same. Conditions: none beyond those of each lemma. -/
import Derived.Test.YtlfhedmmlfpekaaInR
import Derived.Test.YtlfhedmmlfpekaaInts
import Derived.Test.YtlfhedmmlfpekaaTypes
import Derived.Test.YtlfhedmmlfpekaaPx2
import Derived.Test.YtlfhedmmlfpekaaPx2
import Derived.Test.YtlfhedmmlfpekaaPx7
import Derived.Test.YtlfhedmmlfpekaaPx14
import Derived.Test.YtlfhedmmlfpekaaPx4
import Derived.Test.YtlfhedmmlfpekaaPx11
import Derived.Test.YtlfhedmmlfpekaaPx18
import Derived.Test.YtlfhedmmlfpekaaPx2
namespace Go.Proofs.Ytlfhedmmlfpekaa
open Go.RowKit Go.Proofs.YtlfhedmmlfpekaaW.PrintWords
set_option linter.unusedSimpArgs false
set_option linter.unusedVariables false
abbrev Rw := P.S64
abbrev LRw := P.S61
def toRw (x : LRw) : Rw := ⟨x.f0, x.f1, x.f2, x.f3, x.f4, x.f5, x.f6⟩
theorem and3 (p q r : Prop) [Decidable p] [Decidable q] [Decidable r] : (if p then if q then some (decide r) else some false else some false) = some (decide (p ∧ q ∧ r)) := by
  by_cases hp : p <;> by_cases hq : q <;> simp [hp, hq]
def caseB (a b c : Int) : Bool := decide ((0 ≤ a ∧ a ≤ 5) ∧ (0 ≤ b ∧ b ≤ 3) ∧ (0 ≤ c ∧ c ≤ 23))
theorem tbCase_eq (a b c : Int) : P.spec_tbCase.f a b c = some (caseB a b c) := by
  simp only [P.spec_tbCase.f, l1In_eq, bind_if, decide_eq_true_eq, Option.bind_some, if_true, if_false, Bool.false_eq_true, and3, caseB]
theorem isCase_eq (a b c : Int) : P.impl_isCase.f a b c = some (caseB a b c) := by
  simp only [P.impl_isCase.f, inside_eq, bind_if, decide_eq_true_eq, Option.bind_some, if_true, if_false, Bool.false_eq_true, and3, caseB]
theorem toCase_eq (a b c : Int) : P.laws_toCase.f a b c = some (a, b, c) := rfl
def ndOk (l : List Int) (j : Nat) : Bool := decide (0 ≤ l.getD j 0 ∧ l.getD j 0 ≤ 6)
def needB (l : List Int) : Bool := allFrom (ndOk l) l.length 0 && decide (l.length = 4)
theorem l1All_eq (l : List Int) (hl : l.length ≤ 1048576) (k : Nat) (hk : l.length < k) : P.spec_l1All.f k l 0 6 = some (allFrom (ndOk l) l.length 0) := by
  have := all_loop_end (F := fun k i => P.spec_l1All.l0 k 0 6 l (l.length : Int) i) (n := l.length) (ndOk l) true 0 (fun k i _ hi _ => ?_) (fun k _ _ => ?_) l.length 0 k (by omega) (by omega) (fun j hj => by omega)
  · rw [Bool.and_true] at this
    exact this
  · simp only [P.spec_l1All.l0]
    rw [if_pos (by omega), if_pos (by omega), if_pos (by omega), rd_nat, l1In_eq, w64_succ (by omega)]
    rfl
  · simp only [P.spec_l1All.l0]
    rw [if_neg (by omega)]
theorem tbNeed_eq (l : List Int) (hl : l.length ≤ 1048576) (k : Nat) (hk : l.length < k) : P.spec_tbNeed.f k l = some (needB l) := by
  simp only [P.spec_tbNeed.f, l1All_eq l hl k hk, Option.bind_some]
  by_cases h : l.length = 4
  · rw [if_pos (by omega), needB, decide_eq_true h, Bool.and_true]
  · rw [if_neg (by omega), needB, decide_eq_false h, Bool.and_false]
theorem isNeed_eq (l : List Int) (hl : l.length ≤ 1048576) (k : Nat) (hk : l.length < k) : P.impl_isNeed.f k l = some (needB l) := by
  have := all_loop_end (F := fun k i => P.impl_isNeed.l0 k l l (l.length : Int) i) (n := l.length) (ndOk l) ((l.length : Int) == 4) 0 (fun k i _ hi _ => ?_) (fun k _ _ => ?_) l.length 0 k (by omega) (by omega) (fun j hj => by omega)
  · have e : ((l.length : Int) == 4) = decide (l.length = 4) := by rw [Bool.eq_iff_iff]; simp; omega
    rw [e] at this
    exact this
  · simp only [P.impl_isNeed.l0]
    rw [if_pos (by omega), if_pos (by omega), if_pos (by omega), rd_nat, inside_eq, w64_succ (by omega)]
    rfl
  · simp only [P.impl_isNeed.l0]
    rw [if_neg (by omega)]
def boundsB (x : Rw) : Bool := decide ((0 ≤ x.f0 ∧ x.f0 ≤ x.f1 ∧ x.f1 ≤ 5) ∧ (0 ≤ x.f2 ∧ x.f2 ≤ x.f3 ∧ x.f3 ≤ 3) ∧ (0 ≤ x.f4 ∧ x.f4 ≤ x.f5 ∧ x.f5 ≤ 23))
def rowB (x : Rw) : Bool := boundsB x && needB x.f6
theorem tbRow_eq (x : Rw) (hl : x.f6.length ≤ 1048576) (k : Nat) (hk : x.f6.length < k) : P.spec_tbRow.f k x.f0 x.f1 x.f2 x.f3 x.f4 x.f5 x.f6 = some (rowB x) := by
  simp only [P.spec_tbRow.f, l1In_eq, bind_if, decide_eq_true_eq, tbNeed_eq _ hl k hk, Option.bind_some, if_true, if_false, Bool.false_eq_true, rowB]
  by_cases h : boundsB x = true
  · have h' := h
    simp only [boundsB, decide_eq_true_eq] at h'
    rw [if_pos (by omega), if_pos (by omega), if_pos (by omega), if_pos (by omega), if_pos (by omega), if_pos (by omega), h, Bool.true_and]
  · have h' := h
    simp only [boundsB, decide_eq_true_eq] at h'
    rw [Bool.eq_false_iff.2 h, Bool.false_and]
    repeat' split
    all_goals first | rfl | (exfalso; omega)
theorem isRow_eq (x : Rw) (hl : x.f6.length ≤ 1048576) (k : Nat) (hk : x.f6.length < k) : P.impl_isRow.f k x.f0 x.f1 x.f2 x.f3 x.f4 x.f5 x.f6 = some (rowB x) := by
  simp only [P.impl_isRow.f, inside_eq, bind_if, decide_eq_true_eq, isNeed_eq _ hl k hk, Option.bind_some, if_true, if_false, Bool.false_eq_true, rowB]
  by_cases h : boundsB x = true
  · have h' := h
    simp only [boundsB, decide_eq_true_eq] at h'
    rw [if_pos (by omega), if_pos (by omega), if_pos (by omega), if_pos (by omega), if_pos (by omega), if_pos (by omega), h, Bool.true_and]
  · have h' := h
    simp only [boundsB, decide_eq_true_eq] at h'
    rw [Bool.eq_false_iff.2 h, Bool.false_and]
    repeat' split
    all_goals first | rfl | (exfalso; omega)
/-! ### Slices -/
def rwAt (l : List Rw) (j : Nat) : Rw := l.getD j P.z64
theorem rd_rw (l : List Rw) (j : Nat) : P.rd_T64 l (j : Int) = rwAt l j := by simp [P.rd_T64, rwAt]
/-- Not too long, nor any need in it. -/
def Brief (l : List Rw) : Prop := l.length ≤ 1048576 ∧ ∀ x ∈ l, x.f6.length ≤ 1048576
theorem Brief.at_ {l : List Rw} (h : Brief l) (j : Nat) (hj : j < l.length) : (rwAt l j).f6.length ≤ 1048576 := by
  have : rwAt l j = l[j] := by simp [rwAt, List.getD_eq_getElem?_getD, List.getElem?_eq_getElem hj]
  rw [this]
  exact h.2 _ (List.getElem_mem hj)
def LBrief (l : List LRw) : Prop := l.length ≤ 1048576 ∧ ∀ x ∈ l, x.f6.length ≤ 1048576
theorem LBrief.map {l : List LRw} (h : LBrief l) : Brief (l.map toRw) := ⟨by simpa using h.1, fun x hx => by
  obtain ⟨y, hy, rfl⟩ := List.mem_map.1 hx
  exact h.2 y hy⟩
theorem toRow_eq (x : LRw) (hl : x.f6.length ≤ 1048576) (k : Nat) (hk : x.f6.length < k) : P.laws_toRow.f k x.f0 x.f1 x.f2 x.f3 x.f4 x.f5 x.f6 = some (x.f0, x.f1, x.f2, x.f3, x.f4, x.f5, x.f6) := by
  simp only [P.laws_toRow.f, toIntS_eq _ hl k hk, Option.bind_some]
theorem toRowS_eq (l : List LRw) (hl : LBrief l) (k : Nat) (hk : 2100000 < k) : P.laws_toRowS.f k l = some (l.map toRw) := by
  have hll := hl.1
  simp only [P.laws_toRowS.f]
  rw [if_pos (by omega), if_pos (by omega)]
  refine copy_loop (F := fun k B i => P.laws_toRowS.l0 k l B i) l P.z61 toRw P.z64 1048577 (fun k i d B hk h hB => ?_) (fun k B _ hB => ?_) l.length 0 k (by omega) (by omega)
  · simp only [P.laws_toRowS.l0]
    have hf := fill_set B d P.z64 (toRw (l.getD i P.z61))
    rw [hB] at hf
    have hi : i < l.length := by omega
    have hx : (l.getD i P.z61).f6.length ≤ 1048576 := by
      have : l.getD i P.z61 = l[i] := by simp [List.getD_eq_getElem?_getD, List.getElem?_eq_getElem hi]
      rw [this]
      exact hl.2 _ (List.getElem_mem hi)
    rw [if_pos (by omega), if_pos (by omega)]
    simp only [P.rd_T61, Int.toNat_natCast, toRow_eq _ hx k (by omega), Option.bind_some]
    rw [if_pos (by simp; omega), w64_succ (by omega), ← hf]
    rfl
  · simp only [P.laws_toRowS.l0]
    rw [if_neg (by omega)]
theorem eqRow_refl (x : Rw) (hl : x.f6.length ≤ 1048576) (k : Nat) (hk : x.f6.length < k) : P.laws_eqRow.f k x.f0 x.f1 x.f2 x.f3 x.f4 x.f5 x.f6 x.f0 x.f1 x.f2 x.f3 x.f4 x.f5 x.f6 = some true := by
  simp [P.laws_eqRow.f, eqIntS_refl _ hl k hk]
theorem eqRowS_refl (l : List Rw) (hl : Brief l) (k : Nat) (hk : 2100000 < k) : P.laws_eqRowS.f k l l = some true := by
  have hll := hl.1
  simp only [P.laws_eqRowS.f, if_true]
  have := all_loop_end (F := fun k i => P.laws_eqRowS.l0 k l l i) (n := l.length) (fun _ => true) true 1048577 (fun k i hk hi _ => ?_) (fun k _ _ => ?_) l.length 0 k (by omega) (by omega) (fun j hj => rfl)
  · rw [allFrom_true] at this
    exact this
  · simp only [P.laws_eqRowS.l0]
    have hx := hl.at_ i hi
    rw [if_pos (by omega), if_pos (by omega), if_pos (by omega), w64_succ (by omega), rd_rw, eqRow_refl _ hx k (by omega)]
    rfl
  · simp only [P.laws_eqRowS.l0]
    rw [if_neg (by omega)]
theorem szRow_eq (x : LRw) (left : Int) (hx : x.f6.length ≤ maxLen) (h0 : 0 ≤ left) (h1 : left ≤ 1048576) : P.laws_szRow.f x.f0 x.f1 x.f2 x.f3 x.f4 x.f5 x.f6 left = some (if (x.f6.length : Int) ≤ left then left - x.f6.length else -1) := by
  simp only [P.laws_szRow.f, szIntS_eq _ left hx h0 h1, Option.bind_some]
  by_cases h : (x.f6.length : Int) ≤ left
  · rw [if_pos h, if_neg (by omega)]
  · rw [if_neg h, if_pos (by omega)]
theorem szRowS_l0 (l : List LRw) (hw : ∀ x ∈ l, Wf61 x) (hl : l.length ≤ 1048576) : ∀ (d i : Nat) (left : Int), i + d = l.length → 0 ≤ left → left ≤ 1048576 →
    ∃ r : Int, r ≤ left ∧ (0 ≤ r → ∀ j, i ≤ j → (hj : j < l.length) → (l[j]).f6.length ≤ 1048576) ∧ ∀ k, d < k → P.laws_szRowS.l0 k l left i = some r := by
  intro d
  induction d with
  | zero =>
    intro i left h h0 h1
    refine ⟨left, Int.le_refl _, fun _ j hj hj2 => absurd hj2 (by omega), fun k hk => ?_⟩
    obtain ⟨k, rfl⟩ : ∃ m, k = m + 1 := ⟨k - 1, by omega⟩
    simp only [P.laws_szRowS.l0]
    rw [if_neg (by omega)]
  | succ d ih =>
    intro i left h h0 h1
    have hi : i < l.length := by omega
    have hx := (hw _ (List.getElem_mem hi)).2.2.2.2.2.2.1
    have hr : P.rd_T61 l (i : Int) = l[i] := by simp [P.rd_T61, List.getD_eq_getElem?_getD, List.getElem?_eq_getElem hi]
    by_cases hc : ((l[i]).f6.length : Int) ≤ left
    · obtain ⟨r, hr0, hr1, hr2⟩ := ih (i + 1) (left - (l[i]).f6.length) (by omega) (by omega) (by omega)
      refine ⟨r, by omega, fun h0r j hj hj2 => ?_, fun k hk => ?_⟩
      · by_cases e : j = i
        · subst e; omega
        · exact hr1 h0r j (by omega) hj2
      · obtain ⟨k, rfl⟩ : ∃ m, k = m + 1 := ⟨k - 1, by omega⟩
        simp only [P.laws_szRowS.l0]
        rw [if_pos (by omega), if_pos (by omega), hr, szRow_eq _ left hx h0 h1, if_pos hc]
        simp only [Option.bind_some]
        rw [if_neg (by omega), w64_succ (by omega)]
        exact hr2 k (by omega)
    · refine ⟨-1, by omega, fun h => absurd h (by omega), fun k hk => ?_⟩
      obtain ⟨k, rfl⟩ : ∃ m, k = m + 1 := ⟨k - 1, by omega⟩
      simp only [P.laws_szRowS.l0]
      rw [if_pos (by omega), if_pos (by omega), hr, szRow_eq _ left hx h0 h1, if_neg hc]
      simp only [Option.bind_some]
      rw [if_pos (by omega)]
theorem szRowS_any (l : List LRw) (left : Int) (h0 : 0 ≤ left) (h1 : left ≤ 1048576) (hl : l.length ≤ maxLen) (hw : ∀ x ∈ l, Wf61 x) : ∃ r : Int, r ≤ 1048576 ∧ (0 ≤ r → LBrief l) ∧ ∀ k, l.length < k → P.laws_szRowS.f k l left = some r := by
  unfold maxLen at hl
  by_cases h : (l.length : Int) ≤ left
  · obtain ⟨r, hr0, hr1, hr2⟩ := szRowS_l0 l hw (by omega) l.length 0 (left - (l.length : Int)) (by omega) (by omega) (by omega)
    refine ⟨r, by omega, fun h0 => ⟨by omega, fun x hx => ?_⟩, fun k hk => ?_⟩
    · obtain ⟨j, hj, rfl⟩ := List.getElem_of_mem hx
      exact hr1 h0 j (by omega) hj
    · simp only [P.laws_szRowS.f]
      rw [w64 (by omega) (by omega), if_neg (by omega)]
      exact hr2 k (by omega)
  · refine ⟨-1, by omega, fun h => absurd h (by omega), fun k hk => ?_⟩
    simp only [P.laws_szRowS.f]
    rw [w64 (by omega) (by omega), if_pos (by omega)]
/-! ### A table -/
def tableB (l : List Rw) : Bool := allFrom (fun j => rowB (rwAt l j)) l.length 0 && decide ((l.length : Int) ≤ 10)
theorem tbGood_eq (l : List Rw) (hl : Brief l) (k : Nat) (hk : 2100000 < k) : P.spec_tbGood.f k l = some (tableB l) := by
  have hll := hl.1
  refine all_loop_end (F := fun k i => P.spec_tbGood.l0 k l l (l.length : Int) i) (n := l.length) (fun j => rowB (rwAt l j)) (decide ((l.length : Int) ≤ 10)) 1048577 (fun k i hk hi _ => ?_) (fun k _ _ => ?_) l.length 0 k (by omega) (by omega) (fun j hj => by omega)
  · simp only [P.spec_tbGood.l0]
    have hsz := hl.at_ i hi
    rw [if_pos (by omega), if_pos (by omega), if_pos (by omega), w64_succ (by omega), rd_rw, tbRow_eq _ hsz k (by omega)]
    rfl
  · simp only [P.spec_tbGood.l0]
    rw [if_neg (by omega)]
theorem isTable_eq (l : List Rw) (hl : Brief l) (k : Nat) (hk : 2100000 < k) : P.impl_isTable.f k l = some (tableB l) := by
  have hll := hl.1
  refine all_loop_end (F := fun k i => P.impl_isTable.l0 k l l (l.length : Int) i) (n := l.length) (fun j => rowB (rwAt l j)) (decide ((l.length : Int) ≤ 10)) 1048577 (fun k i hk hi _ => ?_) (fun k _ _ => ?_) l.length 0 k (by omega) (by omega) (fun j hj => by omega)
  · simp only [P.impl_isTable.l0]
    have hsz := hl.at_ i hi
    rw [if_pos (by omega), if_pos (by omega), if_pos (by omega), w64_succ (by omega), rd_rw, isRow_eq _ hsz k (by omega)]
    rfl
  · simp only [P.impl_isTable.l0]
    rw [if_neg (by omega)]
theorem tableB_spec {l : List Rw} (h : tableB l = true) : l.length ≤ 10 ∧ ∀ j, j < l.length → rowB (rwAt l j) = true := by
  simp only [tableB, Bool.and_eq_true, decide_eq_true_eq, allFrom_iff] at h
  exact ⟨by omega, fun j hj => h.1 j (by omega) (by omega)⟩
end Go.Proofs.Ytlfhedmmlfpekaa
