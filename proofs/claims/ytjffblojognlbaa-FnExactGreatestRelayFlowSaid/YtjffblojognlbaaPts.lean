/- Slices of points: the copy of an argument, the test of equality, the marks and their test. -/
import Derived.Test.YtjffblojognlbaaKit
import Derived.Test.YtjffblojognlbaaPx16
import Derived.Test.YtjffblojognlbaaPx9
import Derived.Test.YtjffblojognlbaaPx10
import Derived.Test.YtjffblojognlbaaPx11
import Derived.Test.YtjffblojognlbaaPx13
import Derived.Test.YtjffblojognlbaaTypes
namespace Go.Proofs.Ytjffblojognlbaa
open Go.RowKit Go.Proofs.YtjffblojognlbaaW.PrintWords
set_option linter.unusedSimpArgs false
set_option linter.unusedVariables false
abbrev Pt := P.S71
abbrev LPt := P.S77
def toPt (x : LPt) : Pt := ⟨x.f0, x.f1⟩
theorem toPoint_eq (a b : Int) : P.laws_toPoint.f a b = some (a, b) := rfl
theorem toPointS_l0 (l : List LPt) (hl : l.length ≤ 1048576) : ∀ (d i k : Nat), i + d = l.length → d < k → P.laws_toPointS.l0 k l ((l.take i).map toPt ++ List.replicate d P.z71) i = some (l.map toPt) := by
  intro d
  induction d with
  | zero =>
    intro i k h hk
    obtain ⟨k, rfl⟩ : ∃ m, k = m + 1 := ⟨k - 1, by omega⟩
    simp only [P.laws_toPointS.l0]
    rw [if_neg (by omega), List.take_of_length_le (by omega)]
    simp
  | succ d ih =>
    intro i k h hk
    obtain ⟨k, rfl⟩ : ∃ m, k = m + 1 := ⟨k - 1, by omega⟩
    have hA : ((l.take i).map toPt).length = i := by simp; omega
    have hf := fill_set ((l.take i).map toPt) d P.z71 (toPt (l.getD i P.z77))
    rw [hA] at hf
    simp only [P.laws_toPointS.l0]
    rw [if_pos (by omega), if_pos (by omega)]
    simp only [toPoint_eq, Option.bind_some, P.rd_T77, Int.toNat_natCast]
    rw [if_pos (by simp; omega), w64_succ (by omega)]
    have := ih (i + 1) k (by omega) (by omega)
    rw [take_map_succ toPt l P.z77 i (by omega), ← hf] at this
    exact this
theorem toPointS_eq (l : List LPt) (hl : l.length ≤ 1048576) (k : Nat) (hk : l.length < k) : P.laws_toPointS.f k l = some (l.map toPt) := by
  simp only [P.laws_toPointS.f]
  rw [if_pos (by omega), if_pos (by omega)]
  exact toPointS_l0 l hl l.length 0 k (by omega) hk
theorem eqPoint_refl (a b : Int) : P.laws_eqPoint.f a b a b = some true := by simp [P.laws_eqPoint.f]
theorem eqPointS_refl (l : List Pt) (hl : l.length ≤ 1048576) (k : Nat) (hk : l.length < k) : P.laws_eqPointS.f k l l = some true := by
  simp only [P.laws_eqPointS.f, if_true]
  have key : ∀ (d i k : Nat), i + d = l.length → d < k → P.laws_eqPointS.l0 k l l i = some true := by
    intro d
    induction d with
    | zero =>
      intro i k h hk
      obtain ⟨k, rfl⟩ : ∃ m, k = m + 1 := ⟨k - 1, by omega⟩
      simp only [P.laws_eqPointS.l0]
      rw [if_neg (by omega)]
    | succ d ih =>
      intro i k h hk
      obtain ⟨k, rfl⟩ : ∃ m, k = m + 1 := ⟨k - 1, by omega⟩
      simp only [P.laws_eqPointS.l0]
      rw [if_pos (by omega), if_pos (by omega), if_pos (by omega)]
      simp only [eqPoint_refl, Option.bind_some, if_true]
      rw [w64_succ (by omega)]
      exact ih (i + 1) k (by omega) (by omega)
  exact key l.length 0 k (by omega) hk
theorem szPointS_eq (l : List LPt) (hl : l.length ≤ maxLen) : P.laws_szPointS.f l 1048576 = some (if l.length ≤ 1048576 then 1048576 - (l.length : Int) else -1) := by
  unfold maxLen at hl
  simp only [P.laws_szPointS.f]
  rw [w64 (by omega) (by omega)]
  by_cases h : l.length ≤ 1048576
  · rw [if_neg (by omega), if_pos h]
  · rw [if_pos (by omega), if_neg h]
/-- The list with its marks, from m on. -/
def markedPt : Int → List Pt → List Pt
  | _, [] => []
  | m, _ :: l => ⟨m, m + 1⟩ :: markedPt (m + 2) l
theorem markedPt_length : ∀ (l : List Pt) (m : Int), (markedPt m l).length = l.length
  | [], _ => rfl
  | _ :: l, m => by simp [markedPt, markedPt_length l]
theorem markPointS_l0 : ∀ (l A : List Pt) (m : Int) (k : Nat), A.length + l.length ≤ 1048576 → 0 ≤ m → m + 2 * l.length ≤ 1000000000 → l.length < k → P.laws_markPointS.l0 k (A ++ l) m A.length = some (m + 2 * l.length, A ++ markedPt m l) := by
  intro l
  induction l with
  | nil =>
    intro A m k h h0 h1 hk
    obtain ⟨k, rfl⟩ : ∃ m, k = m + 1 := ⟨k - 1, by omega⟩
    simp only [P.laws_markPointS.l0]
    rw [if_neg (by simp)]
    simp [markedPt]
  | cons x l ih =>
    intro A m k h h0 h1 hk
    simp only [List.length_cons] at h h1 hk
    obtain ⟨k, rfl⟩ : ∃ m, k = m + 1 := ⟨k - 1, by omega⟩
    simp only [P.laws_markPointS.l0]
    rw [if_pos (by simp; omega), if_pos (by omega)]
    simp only [Option.bind_some, Int.toNat_natCast, P.rd_T71]
    have hset : ∀ (v u : Pt), (A ++ v :: l).set A.length u = (A ++ [u]) ++ l := by
      intro v u
      rw [List.set_append_right _ _ (by omega), Nat.sub_self, List.set_cons_zero, List.append_assoc]
      rfl
    have hget : ∀ (v : Pt), (A ++ v :: l).getD A.length P.z71 = v := by
      intro v
      simp [List.getD_eq_getElem?_getD]
    rw [hset x, List.append_assoc, List.singleton_append, hset]
    simp only [hget]
    rw [w64 (by omega) (by omega), w64 (by omega) (by omega), w64_succ (by omega)]
    have := ih (A ++ [⟨m, m + 1⟩]) (m + 1 + 1) k (by simp; omega) (by omega) (by omega) (by omega)
    rw [List.length_append, List.length_singleton] at this
    rw [this, List.append_assoc, List.singleton_append, List.length_cons]
    simp only [markedPt]
    rw [show m + 1 + 1 + 2 * (l.length : Int) = m + 2 * ((l.length + 1 : Nat) : Int) by omega, show m + 1 + 1 = m + 2 by omega]
theorem heldPointS_l0 : ∀ (l A : List Pt) (m : Int) (k : Nat), A.length + l.length ≤ 1048576 → 0 ≤ m → m + 2 * l.length ≤ 1000000000 → l.length < k → P.laws_heldPointS.l0 k (A ++ markedPt m l) m A.length = some (m + 2 * l.length) := by
  intro l
  induction l with
  | nil =>
    intro A m k h h0 h1 hk
    obtain ⟨k, rfl⟩ : ∃ m, k = m + 1 := ⟨k - 1, by omega⟩
    have hm : markedPt m [] = [] := rfl
    rw [hm]
    simp only [P.laws_heldPointS.l0]
    rw [if_neg (by simp)]
    simp
  | cons x l ih =>
    intro A m k h h0 h1 hk
    simp only [List.length_cons] at h h1 hk
    obtain ⟨k, rfl⟩ : ∃ m, k = m + 1 := ⟨k - 1, by omega⟩
    have hm : markedPt m (x :: l) = ⟨m, m + 1⟩ :: markedPt (m + 2) l := rfl
    rw [hm]
    simp only [P.laws_heldPointS.l0]
    have hget : ∀ (v : Pt) (B : List Pt), (A ++ v :: B).getD A.length P.z71 = v := by
      intro v B
      simp [List.getD_eq_getElem?_getD]
    rw [if_pos (by simp; omega), if_pos (by omega)]
    simp only [Int.toNat_natCast, P.rd_T71, hget]
    rw [w64 (by omega) (by omega), if_pos trivial, if_pos rfl, w64 (by omega) (by omega), w64_succ (by omega)]
    have := ih (A ++ [⟨m, m + 1⟩]) (m + 2) k (by simp; omega) (by omega) (by omega) (by omega)
    rw [List.length_append, List.length_singleton, List.append_assoc, List.singleton_append] at this
    rw [show m + 1 + 1 = m + 2 by omega, this, List.length_cons, show m + 2 + 2 * (l.length : Int) = m + 2 * ((l.length + 1 : Nat) : Int) by omega]
theorem markPointS_eq (l : List Pt) (hl : l.length ≤ 1048576) (k : Nat) (hk : l.length < k) : P.laws_markPointS.f k l 1 = some (1 + 2 * (l.length : Int), markedPt 1 l) :=
  markPointS_l0 l [] 1 k (by simpa using hl) (by omega) (by omega) hk
theorem heldPointS_eq (l : List Pt) (hl : l.length ≤ 1048576) (k : Nat) (hk : l.length < k) : P.laws_heldPointS.f k (markedPt 1 l) 1 = some (1 + 2 * (l.length : Int)) :=
  heldPointS_l0 l [] 1 k (by simpa using hl) (by omega) (by omega) hk
end Go.Proofs.Ytjffblojognlbaa
