/- Slices of whole numbers: copy, equality, size, marks. Conditions: none beyond those of each lemma. -/
import Derived.Test.YtlfhedmmlfpekaaKit
import Derived.Test.YtlfhedmmlfpekaaPx9
import Derived.Test.YtlfhedmmlfpekaaPx16
import Derived.Test.YtlfhedmmlfpekaaPx3
import Derived.Test.YtlfhedmmlfpekaaPx41
import Derived.Test.YtlfhedmmlfpekaaPx42
namespace Go.Proofs.Ytlfhedmmlfpekaa
open Go.RowKit Go.Proofs.YtlfhedmmlfpekaaW.PrintWords
set_option linter.unusedSimpArgs false
set_option linter.unusedVariables false
theorem rd_nat (l : List Int) (i : Nat) : rd l (i : Int) = l.getD i 0 := by simp [rd]
theorem toIntS_eq (l : List Int) (hl : l.length ≤ 1048576) (k : Nat) (hk : l.length < k) : P.laws_toIntS.f k l = some l := by
  simp only [P.laws_toIntS.f]
  rw [if_pos (by omega), if_pos (by omega)]
  have := copy_loop (F := fun k B i => P.laws_toIntS.l0 k l B i) l 0 id 0 0 (fun k i d B _ h hB => ?_) (fun k B _ hB => ?_) l.length 0 k (by omega) (by omega)
  · rw [List.take_zero, List.map_nil, List.nil_append, List.map_id] at this
    exact this
  · simp only [P.laws_toIntS.l0]
    have hf := fill_set B d 0 (l.getD i 0)
    rw [hB] at hf
    rw [if_pos (by omega), if_pos (by omega), if_pos (by simp; omega), w64_succ (by omega), rd_nat, Int.toNat_natCast, hf]
    rfl
  · simp only [P.laws_toIntS.l0]
    rw [if_neg (by omega)]
theorem eqIntS_refl (l : List Int) (hl : l.length ≤ 1048576) (k : Nat) (hk : l.length < k) : P.laws_eqIntS.f k l l = some true := by
  simp only [P.laws_eqIntS.f, if_true]
  have := all_loop_end (F := fun k i => P.laws_eqIntS.l0 k l l i) (n := l.length) (fun _ => true) true 0 (fun k i _ hi _ => ?_) (fun k _ _ => ?_) l.length 0 k (by omega) (by omega) (fun j hj => rfl)
  · rw [allFrom_true] at this
    exact this
  · simp only [P.laws_eqIntS.l0]
    rw [if_pos (by omega), if_pos (by omega), if_pos (by omega), w64_succ (by omega)]
  · simp only [P.laws_eqIntS.l0]
    rw [if_neg (by omega)]
theorem szIntS_eq (l : List Int) (left : Int) (hl : l.length ≤ maxLen) (h0 : 0 ≤ left) (h1 : left ≤ 1048576) : P.laws_szIntS.f l left = some (if (l.length : Int) ≤ left then left - l.length else -1) := by
  unfold maxLen at hl
  simp only [P.laws_szIntS.f]
  rw [w64 (by omega) (by omega)]
  by_cases h : (l.length : Int) ≤ left
  · rw [if_neg (by omega), if_pos h]
  · rw [if_pos (by omega), if_neg h]
def mkInt (m : Int) (_ : Int) : Int := m
theorem markIntS_l0 (l A : List Int) (m : Int) (k : Nat) (h : A.length + l.length ≤ 1048576) (h0 : 0 ≤ m) (h1 : m + l.length ≤ 1000000000) (hk : l.length < k) : P.laws_markIntS.l0 k (A ++ l) m (A.length : Int) = some (m + l.length, A ++ marked mkInt 1 m l) := by
  have := mark_loop (F := fun k x m i => P.laws_markIntS.l0 k x m i) mkInt 1 0 (fun k A x l m _ h0 h1 h => ?_) (fun k A m => ?_) l A m k h h0 (by omega) (by omega)
  · rw [show m + ((1 : Nat) : Int) * (l.length : Int) = m + l.length by omega] at this
    exact this
  · simp only [P.laws_markIntS.l0]
    rw [if_pos (by simp; omega), if_pos (by omega), Int.toNat_natCast, set_mid, w64 (by omega) (by omega), w64_succ (by omega)]
    rfl
  · simp only [P.laws_markIntS.l0]
    rw [if_neg (by omega)]
theorem heldIntS_l0 (l A : List Int) (m : Int) (k : Nat) (h : A.length + l.length ≤ 1048576) (h0 : 0 ≤ m) (h1 : m + l.length ≤ 1000000000) (hk : l.length < k) : P.laws_heldIntS.l0 k (A ++ marked mkInt 1 m l) m (A.length : Int) = some (m + l.length) := by
  have := held_loop (F := fun k x m i => P.laws_heldIntS.l0 k x m i) mkInt 1 0 (fun k A x l m _ h0 h1 h => ?_) (fun k A m => ?_) l A m k h h0 (by omega) (by omega)
  · rw [show m + ((1 : Nat) : Int) * (l.length : Int) = m + l.length by omega] at this
    exact this
  · simp only [P.laws_heldIntS.l0]
    rw [if_pos (by simp; omega), if_pos (by omega), rd_nat, getD_mid, if_pos (show mkInt m x = m from rfl), w64 (by omega) (by omega), w64_succ (by omega)]
    rfl
  · simp only [P.laws_heldIntS.l0]
    rw [if_neg (by omega)]
theorem markIntS_eq (l : List Int) (m : Int) (k : Nat) (h : l.length ≤ 1048576) (h0 : 0 ≤ m) (h1 : m + l.length ≤ 1000000000) (hk : l.length < k) : P.laws_markIntS.f k l m = some (m + l.length, marked mkInt 1 m l) :=
  markIntS_l0 l [] m k (by simpa using h) h0 h1 hk
theorem heldIntS_eq (l : List Int) (m : Int) (k : Nat) (h : l.length ≤ 1048576) (h0 : 0 ≤ m) (h1 : m + l.length ≤ 1000000000) (hk : l.length < k) : P.laws_heldIntS.f k (marked mkInt 1 m l) m = some (m + l.length) :=
  heldIntS_l0 l [] m k (by simpa using h) h0 h1 hk
end Go.Proofs.Ytlfhedmmlfpekaa
