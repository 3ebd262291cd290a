/- Appliances: both sides say the same of a name, of an appliance and of a fleet. Conditions: none beyond those of each lemma. -/
import Derived.Test.YteinfbfaijjknaaInR
import Derived.Test.YteinfbfaijjknaaTypes
import Derived.Test.YteinfbfaijjknaaPx3
import Derived.Test.YteinfbfaijjknaaPx6
import Derived.Test.YteinfbfaijjknaaPx1
import Derived.Test.YteinfbfaijjknaaPx4
import Derived.Test.YteinfbfaijjknaaPx18
import Derived.Test.YteinfbfaijjknaaPx21
import Derived.Test.YteinfbfaijjknaaPx24
import Derived.Test.YteinfbfaijjknaaPx19
import Derived.Test.YteinfbfaijjknaaPx22
namespace Go.Proofs.Yteinfbfaijjknaa
open Go.RowKit Go.Proofs.YteinfbfaijjknaaW.PrintWords
set_option linter.unusedSimpArgs false
set_option linter.unusedVariables false
abbrev Ap := P.S26
abbrev LAp := P.S23
def toAp (x : LAp) : Ap := ⟨x.f0, x.f1, x.f2, x.f3, x.f4⟩
def chOk (s : ByteArray) (i : Nat) : Bool := decide ((97 ≤ bt s i ∧ bt s i ≤ 122) ∨ (48 ≤ bt s i ∧ bt s i ≤ 57 ∧ i ≠ 0))
def nameB (s : ByteArray) : Bool := allFrom (chOk s) s.size 0 && decide (1 ≤ (s.size : Int) ∧ (s.size : Int) ≤ 6)
theorem apName_eq (s : ByteArray) (hs : s.size ≤ 1048576) (k : Nat) (hk : s.size < k) : P.spec_apName.f k s = some (nameB s) := by
  refine all_loop_end (F := fun k i => P.spec_apName.l0 k s i) (n := s.size) (chOk s) (decide (1 ≤ (s.size : Int) ∧ (s.size : Int) ≤ 6)) 0 (fun k i _ hi _ => ?_) (fun k _ _ => ?_) s.size 0 k (by omega) (by omega) (fun j hj => by omega)
  · simp only [P.spec_apName.l0]
    rw [if_pos (by omega), if_pos (by omega), w64_succ (by omega)]
    by_cases hp : chOk s i = true
    · rw [if_pos hp]
      simp only [chOk, decide_eq_true_eq] at hp
      repeat' split
      all_goals first | rfl | (exfalso; omega)
    · rw [if_neg hp]
      simp only [chOk, decide_eq_true_eq] at hp
      repeat' split
      all_goals first | rfl | (exfalso; omega)
  · simp only [P.spec_apName.l0]
    rw [if_neg (by omega), l1In_eq]
    rfl
theorem isName_eq (s : ByteArray) (hs : s.size ≤ 1048576) (k : Nat) (hk : s.size < k) : P.impl_isName.f k s = some (nameB s) := by
  refine all_loop_end (F := fun k i => P.impl_isName.l0 k s (s.size : Int) i) (n := s.size) (chOk s) (decide (1 ≤ (s.size : Int) ∧ (s.size : Int) ≤ 6)) 0 (fun k i _ hi _ => ?_) (fun k _ _ => ?_) s.size 0 k (by omega) (by omega) (fun j hj => by omega)
  · simp only [P.impl_isName.l0]
    rw [if_pos (by omega), if_pos (by omega), if_pos (by omega), w64_succ (by omega)]
    by_cases hp : chOk s i = true
    · rw [if_pos hp]
      simp only [chOk, decide_eq_true_eq] at hp
      repeat' split
      all_goals first | rfl | (exfalso; omega)
    · rw [if_neg hp]
      simp only [chOk, decide_eq_true_eq] at hp
      repeat' split
      all_goals first | rfl | (exfalso; omega)
  · simp only [P.impl_isName.l0]
    rw [if_neg (by omega), inside_eq]
    rfl
def goodB (x : Ap) : Bool := nameB x.f0 && decide ((0 ≤ x.f1 ∧ x.f1 ≤ 3) ∧ (0 ≤ x.f2 ∧ x.f2 ≤ 13) ∧ (1 ≤ x.f3 ∧ x.f3 ≤ 9) ∧ (0 ≤ x.f4 ∧ x.f4 ≤ 5))
theorem and4 (p q r s : Prop) [Decidable p] [Decidable q] [Decidable r] [Decidable s] : (if p then if q then if r then some (decide s) else some false else some false else some false) = some (decide (p ∧ q ∧ r ∧ s)) := by
  by_cases hp : p <;> by_cases hq : q <;> by_cases hr : r <;> simp [hp, hq, hr]
theorem apGood_eq (x : Ap) (hs : x.f0.size ≤ 1048576) (k : Nat) (hk : x.f0.size < k) : P.spec_apGood.f k x.f0 x.f1 x.f2 x.f3 x.f4 = some (goodB x) := by
  simp only [P.spec_apGood.f, apName_eq _ hs k hk, P.spec_apNode.f, P.spec_apState.f, l1In_eq, bind_if, Option.bind_some, if_true, if_false, Bool.false_eq_true, and4, goodB]
  cases nameB x.f0 <;> simp
theorem isAppliance_eq (x : Ap) (hs : x.f0.size ≤ 1048576) (k : Nat) (hk : x.f0.size < k) : P.impl_isAppliance.f k x.f0 x.f1 x.f2 x.f3 x.f4 = some (goodB x) := by
  simp only [P.impl_isAppliance.f, isName_eq _ hs k hk, P.impl_isState.f, inside_eq, bind_if, Option.bind_some, if_true, if_false, Bool.false_eq_true, and4, goodB]
  cases nameB x.f0 <;> simp
theorem toAppliance_eq (a : ByteArray) (b c d e : Int) : P.laws_toAppliance.f a b c d e = some (a, b, c, d, e) := rfl
theorem szAppliance_eq (a : ByteArray) (b c d e left : Int) (ha : a.size ≤ maxLen) (h0 : 0 ≤ left) (h1 : left ≤ 1048576) : P.laws_szAppliance.f a b c d e left = some (if (a.size : Int) ≤ left then left - a.size else -1) := by
  unfold maxLen at ha
  simp only [P.laws_szAppliance.f]
  rw [w64 (by omega) (by omega)]
  by_cases h : (a.size : Int) ≤ left
  · rw [if_neg (by omega), if_pos h]
  · rw [if_pos (by omega), if_neg h]
/-! ### Slices -/
def ap (l : List Ap) (j : Nat) : Ap := l.getD j P.z26
theorem rd_ap (l : List Ap) (j : Nat) : P.rd_T26 l (j : Int) = ap l j := by simp [P.rd_T26, ap]
/-- Short names. -/
def Short (l : List Ap) : Prop := l.length ≤ 1048576 ∧ ∀ x ∈ l, x.f0.size ≤ 1048576
theorem Short.at_ {l : List Ap} (h : Short l) (j : Nat) (hj : j < l.length) : (ap l j).f0.size ≤ 1048576 := by
  have : ap l j = l[j] := by simp [ap, List.getD_eq_getElem?_getD, List.getElem?_eq_getElem hj]
  rw [this]
  exact h.2 _ (List.getElem_mem hj)
theorem toApplianceS_eq (l : List LAp) (hl : l.length ≤ 1048576) (k : Nat) (hk : l.length < k) : P.laws_toApplianceS.f k l = some (l.map toAp) := by
  simp only [P.laws_toApplianceS.f]
  rw [if_pos (by omega), if_pos (by omega)]
  refine copy_loop (F := fun k B i => P.laws_toApplianceS.l0 k l B i) l P.z23 toAp P.z26 0 (fun k i d B _ h hB => ?_) (fun k B _ hB => ?_) l.length 0 k (by omega) (by omega)
  · simp only [P.laws_toApplianceS.l0]
    have hf := fill_set B d P.z26 (toAp (l.getD i P.z23))
    rw [hB] at hf
    rw [if_pos (by omega), if_pos (by omega)]
    simp only [toAppliance_eq, Option.bind_some, P.rd_T23, Int.toNat_natCast]
    rw [if_pos (by simp; omega), w64_succ (by omega), ← hf]
    rfl
  · simp only [P.laws_toApplianceS.l0]
    rw [if_neg (by omega)]
theorem eqApplianceS_refl (l : List Ap) (hl : l.length ≤ 1048576) (k : Nat) (hk : l.length < k) : P.laws_eqApplianceS.f k l l = some true := by
  simp only [P.laws_eqApplianceS.f, if_true]
  have := all_loop_end (F := fun k i => P.laws_eqApplianceS.l0 k l l i) (n := l.length) (fun _ => true) true 0 (fun k i _ hi _ => ?_) (fun k _ _ => ?_) l.length 0 k (by omega) (by omega) (fun j hj => rfl)
  · rw [allFrom_true] at this
    exact this
  · simp only [P.laws_eqApplianceS.l0]
    rw [if_pos (by omega), if_pos (by omega), if_pos (by omega), w64_succ (by omega)]
    simp [P.laws_eqAppliance.f]
  · simp only [P.laws_eqApplianceS.l0]
    rw [if_neg (by omega)]
theorem szApplianceS_l0 (l : List LAp) (hw : ∀ x ∈ l, Wf23 x) (hl : l.length ≤ 1048576) : ∀ (d i : Nat) (left : Int), i + d = l.length → 0 ≤ left → left ≤ 1048576 →
    ∃ r : Int, (0 ≤ r → ∀ j, i ≤ j → (hj : j < l.length) → (l[j]).f0.size ≤ 1048576) ∧ ∀ k, d < k → P.laws_szApplianceS.l0 k l left i = some r := by
  intro d
  induction d with
  | zero =>
    intro i left h h0 h1
    refine ⟨left, fun _ j hj hj2 => absurd hj2 (by omega), fun k hk => ?_⟩
    obtain ⟨k, rfl⟩ : ∃ m, k = m + 1 := ⟨k - 1, by omega⟩
    simp only [P.laws_szApplianceS.l0]
    rw [if_neg (by omega)]
  | succ d ih =>
    intro i left h h0 h1
    have hi : i < l.length := by omega
    have hx := (hw _ (List.getElem_mem hi)).1
    have hr : P.rd_T23 l (i : Int) = l[i] := by simp [P.rd_T23, List.getD_eq_getElem?_getD, List.getElem?_eq_getElem hi]
    by_cases hc : ((l[i]).f0.size : Int) ≤ left
    · obtain ⟨r, hr1, hr2⟩ := ih (i + 1) (left - (l[i]).f0.size) (by omega) (by omega) (by omega)
      refine ⟨r, fun h0r j hj hj2 => ?_, fun k hk => ?_⟩
      · by_cases e : j = i
        · subst e; omega
        · exact hr1 h0r j (by omega) hj2
      · obtain ⟨k, rfl⟩ : ∃ m, k = m + 1 := ⟨k - 1, by omega⟩
        simp only [P.laws_szApplianceS.l0]
        rw [if_pos (by omega), if_pos (by omega), hr, szAppliance_eq _ _ _ _ _ left hx h0 h1, if_pos hc]
        simp only [Option.bind_some]
        rw [if_neg (by omega), w64_succ (by omega)]
        exact hr2 k (by omega)
    · refine ⟨-1, fun h => absurd h (by omega), fun k hk => ?_⟩
      obtain ⟨k, rfl⟩ : ∃ m, k = m + 1 := ⟨k - 1, by omega⟩
      simp only [P.laws_szApplianceS.l0]
      rw [if_pos (by omega), if_pos (by omega), hr, szAppliance_eq _ _ _ _ _ left hx h0 h1, if_neg hc]
      simp only [Option.bind_some]
      rw [if_pos (by omega)]
theorem szApplianceS_eq (l : List LAp) (hl : l.length ≤ maxLen) (hw : ∀ x ∈ l, Wf23 x) : ∃ r : Int, (0 ≤ r → l.length ≤ 1048576 ∧ Short (l.map toAp)) ∧ ∀ k, l.length < k → P.laws_szApplianceS.f k l 1048576 = some r := by
  unfold maxLen at hl
  by_cases h : l.length ≤ 1048576
  · obtain ⟨r, hr1, hr2⟩ := szApplianceS_l0 l hw h l.length 0 (1048576 - (l.length : Int)) (by omega) (by omega) (by omega)
    refine ⟨r, fun h0 => ⟨h, by simpa using h, fun x hx => ?_⟩, fun k hk => ?_⟩
    · obtain ⟨y, hy, rfl⟩ := List.mem_map.1 hx
      obtain ⟨j, hj, rfl⟩ := List.getElem_of_mem hy
      exact hr1 h0 j (by omega) hj
    · simp only [P.laws_szApplianceS.f]
      rw [w64 (by omega) (by omega), if_neg (by omega)]
      exact hr2 k (by omega)
  · refine ⟨-1, fun h => absurd h (by omega), fun k hk => ?_⟩
    simp only [P.laws_szApplianceS.f]
    rw [w64 (by omega) (by omega), if_pos (by omega)]
/-! ### A fleet -/
def apOk (l : List Ap) (j : Nat) : Bool := goodB (ap l j) && (decide (j = 0) || Op.bytesLess (ap l (j - 1)).f0.toList (ap l j).f0.toList)
def fleetB (l : List Ap) : Bool := allFrom (apOk l) l.length 0 && decide ((l.length : Int) ≤ 12)
theorem apFleet_eq (l : List Ap) (hl : Short l) (k : Nat) (hk : 2100000 < k) : P.spec_apFleet.f k l = some (fleetB l) := by
  have hll := hl.1
  refine all_loop_end (F := fun k i => P.spec_apFleet.l0 k l l (l.length : Int) i) (n := l.length) (apOk l) (decide ((l.length : Int) ≤ 12)) 1048577 (fun k i hk hi _ => ?_) (fun k _ _ => ?_) l.length 0 k (by omega) (by omega) (fun j hj => by omega)
  · simp only [P.spec_apFleet.l0]
    have hsz := hl.at_ i hi
    rw [if_pos (by omega), if_pos (by omega), if_pos (by omega), w64_succ (by omega), rd_ap, apGood_eq _ hsz k (by omega)]
    simp only [Option.bind_some]
    have e : apOk l i = (goodB (ap l i) && (decide (i = 0) || Op.bytesLess (ap l (i - 1)).f0.toList (ap l i).f0.toList)) := rfl
    by_cases hg : goodB (ap l i) = true
    · rw [if_pos hg]
      rw [hg, Bool.true_and] at e
      by_cases h0 : i = 0
      · rw [if_neg (by omega), if_pos (by rw [e, decide_eq_true h0]; rfl)]
      · rw [if_pos (by omega), w64_pred (by omega) (by omega), if_pos (by omega), if_pos (by omega), rd_ap]
        rw [decide_eq_false h0, Bool.false_or] at e
        rw [e]
    · rw [if_neg hg, if_neg (by rw [e, Bool.eq_false_iff.2 hg]; simp)]
  · simp only [P.spec_apFleet.l0]
    rw [if_neg (by omega)]
theorem isFleet_eq (l : List Ap) (hl : Short l) (k : Nat) (hk : 2100000 < k) : P.impl_isFleet.f k l = some (fleetB l) := by
  have hll := hl.1
  refine all_loop_end (F := fun k i => P.impl_isFleet.l0 k l l (l.length : Int) i) (n := l.length) (apOk l) (decide ((l.length : Int) ≤ 12)) 1048577 (fun k i hk hi _ => ?_) (fun k _ _ => ?_) l.length 0 k (by omega) (by omega) (fun j hj => by omega)
  · simp only [P.impl_isFleet.l0]
    have hsz := hl.at_ i hi
    rw [if_pos (by omega), if_pos (by omega), if_pos (by omega), w64_succ (by omega), rd_ap, isAppliance_eq _ hsz k (by omega)]
    simp only [Option.bind_some]
    have e : apOk l i = (goodB (ap l i) && (decide (i = 0) || Op.bytesLess (ap l (i - 1)).f0.toList (ap l i).f0.toList)) := rfl
    by_cases hg : goodB (ap l i) = true
    · rw [if_pos hg]
      rw [hg, Bool.true_and] at e
      by_cases h0 : i = 0
      · rw [if_neg (by omega), if_pos (by rw [e, decide_eq_true h0]; rfl)]
      · rw [if_pos (by omega), w64_pred (by omega) (by omega), if_pos (by omega), if_pos (by omega), rd_ap]
        rw [decide_eq_false h0, Bool.false_or] at e
        rw [e]
    · rw [if_neg hg, if_neg (by rw [e, Bool.eq_false_iff.2 hg]; simp)]
  · simp only [P.impl_isFleet.l0]
    rw [if_neg (by omega)]
theorem fleetB_spec {l : List Ap} (h : fleetB l = true) : l.length ≤ 12 ∧ ∀ j, j < l.length → goodB (ap l j) = true ∧ (0 < j → Op.bytesLess (ap l (j - 1)).f0.toList (ap l j).f0.toList = true) := by
  simp only [fleetB, Bool.and_eq_true, decide_eq_true_eq, allFrom_iff] at h
  refine ⟨by omega, fun j hj => ?_⟩
  have := h.1 j (by omega) (by omega)
  simp only [apOk, Bool.and_eq_true, Bool.or_eq_true, decide_eq_true_eq] at this
  exact ⟨this.1, fun h0 => this.2.resolve_left (by omega)⟩
theorem goodB_spec {x : Ap} (h : goodB x = true) : nameB x.f0 = true ∧ (0 ≤ x.f1 ∧ x.f1 ≤ 3) ∧ (0 ≤ x.f2 ∧ x.f2 ≤ 13) ∧ (1 ≤ x.f3 ∧ x.f3 ≤ 9) ∧ (0 ≤ x.f4 ∧ x.f4 ≤ 5) := by
  simp only [goodB, Bool.and_eq_true, decide_eq_true_eq] at h
  exact h
end Go.Proofs.Yteinfbfaijjknaa
