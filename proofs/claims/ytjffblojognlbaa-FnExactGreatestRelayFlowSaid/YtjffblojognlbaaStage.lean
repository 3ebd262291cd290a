/- Needs and stages between two points of a profile: both sides. Conditions: none. -/
import Derived.Test.YtjffblojognlbaaProf
import Derived.Test.YtjffblojognlbaaLoss
import Derived.Test.YtjffblojognlbaaEvKit
import Derived.Test.YtjffblojognlbaaPx32
import Derived.Test.YtjffblojognlbaaPx28
import Derived.Test.YtjffblojognlbaaPx25
namespace Go.Proofs.Ytjffblojognlbaa
open Go.RowKit Go.Proofs.YtjffblojognlbaaW.PrintWords
set_option linter.unusedSimpArgs false
set_option linter.unusedVariables false
section
variable (l : List Pt) (kd fl : Int)
def lossAt (i : Nat) : Int := lossOf kd ((pt l (i + 1)).f0 - (pt l i).f0) fl
def needSum : Nat → Nat → Int → Int
  | 0, _, acc => acc
  | d + 1, i, acc => needSum d (i + 1) (acc + lossAt l kd fl i)
def needOf (i j : Nat) : Int := needSum l kd fl (j - i) i ((pt l j).f1 - (pt l i).f1)
def stageB (p q : Int) (i j : Nat) : Bool := decide (needOf l kd fl i j + q ≤ p)
end
section
variable {l : List Pt} {kd fl : Int} (hp : profB l = true) (hk : 0 ≤ kd ∧ kd ≤ 3) (hf : 0 ≤ fl ∧ fl ≤ 3000)
include hp
theorem along_bd {i : Nat} (h : i + 1 < l.length) : 0 ≤ (pt l (i + 1)).f0 - (pt l i).f0 ∧ (pt l (i + 1)).f0 - (pt l i).f0 ≤ 5000 := by
  have := ((profB_spec l hp).2.2.2 (i + 1) h).2.2 (by omega)
  rw [Nat.add_sub_cancel] at this
  omega
include hf
theorem lossAt_bd {i : Nat} (h : i + 1 < l.length) : 0 ≤ lossAt l kd fl i ∧ lossAt l kd fl i ≤ 2250001 :=
  lossOf_bd hf.1 hf.2 (along_bd hp h).1 (along_bd hp h).2
theorem needSum_bd : ∀ (d i : Nat) (acc : Int), i + d < l.length → acc ≤ needSum l kd fl d i acc ∧ needSum l kd fl d i acc ≤ acc + 2250001 * d
  | 0, i, acc, h => by simp only [needSum]; omega
  | d + 1, i, acc, h => by
    have := lossAt_bd (kd := kd) hp hf (i := i) (by omega)
    have := needSum_bd d (i + 1) (acc + lossAt l kd fl i) (by omega)
    simp only [needSum]
    omega
theorem needOf_bd {i j : Nat} (hi : i ≤ j) (hj : j < l.length) : -4000 ≤ needOf l kd fl i j ∧ needOf l kd fl i j ≤ 100000000 := by
  have h := needSum_bd (kd := kd) hp hf (j - i) i ((pt l j).f1 - (pt l i).f1) (by omega)
  obtain ⟨h1, h2, _, h3⟩ := profB_spec l hp
  have a := (h3 j hj).2.1
  have b := (h3 i (by omega)).2.1
  unfold needOf
  omega
include hk
theorem need_l0 (p q : Int) {j : Nat} (hj : j < l.length) : ∀ (d i k : Nat) (acc : Int), i + d = j → d < k → -4000 ≤ acc → acc ≤ 4000 + 2250001 * i →
    P.impl_needBetween.l0 k l (j : Int) acc (i : Int) kd fl p q = some (needSum l kd fl d i acc) ∧ P.spec_ryNeed.l0 k l (j : Int) acc (i : Int) kd fl p q = some (needSum l kd fl d i acc) := by
  obtain ⟨_, h2, _, _⟩ := profB_spec l hp
  intro d
  induction d with
  | zero =>
    intro i k acc h hk1 h3 h4
    obtain ⟨k, rfl⟩ : ∃ m, k = m + 1 := ⟨k - 1, by omega⟩
    simp only [P.impl_needBetween.l0, P.spec_ryNeed.l0, needSum]
    rw [if_neg (by omega), if_neg (by omega)]
    exact ⟨rfl, rfl⟩
  | succ d ih =>
    intro i k acc h hk1 h3 h4
    obtain ⟨k, rfl⟩ : ∃ m, k = m + 1 := ⟨k - 1, by omega⟩
    have ha := along_bd hp (i := i) (by omega)
    have hl := lossAt_bd (kd := kd) hp hf (i := i) (by omega)
    simp only [P.impl_needBetween.l0, P.spec_ryNeed.l0, needSum]
    rw [w64_succ (by omega), if_pos (by omega), if_pos (by omega), if_pos (by omega), if_pos (by omega), if_pos (by omega), if_pos (by omega), if_pos (by omega), if_pos (by omega), if_pos (by omega), if_pos (by omega)]
    simp only [rd_pt]
    rw [w64 (x := (pt l (i + 1)).f0 - (pt l i).f0) (by omega) (by omega), hoseLoss_eq hk hf.1 hf.2 ha.1 ha.2, hoLoss_eq hk hf.1 hf.2 ha.1 ha.2]
    simp only [Option.bind_some]
    have e : lossOf kd ((pt l (i + 1)).f0 - (pt l i).f0) fl = lossAt l kd fl i := rfl
    rw [e, w64 (x := acc + lossAt l kd fl i) (by omega) (by omega)]
    exact ih (i + 1) k _ (by omega) (by omega) (by omega) (by omega)
theorem need_eq (p q : Int) {i j : Nat} (hi : i ≤ j) (hj : j < l.length) (k : Nat) (hk1 : 50 < k) :
    P.impl_needBetween.f k l kd fl p q (i : Int) (j : Int) = some (needOf l kd fl i j) ∧ P.spec_ryNeed.f k l kd fl p q (i : Int) (j : Int) = some (needOf l kd fl i j) := by
  obtain ⟨h1, h2, _, h3⟩ := profB_spec l hp
  have a := (h3 j hj).2.1
  have b := (h3 i (by omega)).2.1
  simp only [P.impl_needBetween.f, P.spec_ryNeed.f]
  rw [if_pos (by omega), if_pos (by omega), if_pos (by omega), if_pos (by omega), if_pos (by omega), if_pos (by omega), if_pos (by omega), if_pos (by omega)]
  simp only [rd_pt]
  rw [w64 (by omega) (by omega)]
  exact need_l0 hp hk hf p q hj (j - i) i k _ (by omega) (by omega) (by omega) (by omega)
theorem stage_eq {p q : Int} (hq : 0 ≤ q ∧ q ≤ 2000) {i j : Nat} (hi : i ≤ j) (hj : j < l.length) (k : Nat) (hk1 : 50 < k) :
    P.impl_stagePossible.f k l kd fl p q (i : Int) (j : Int) = some (stageB l kd fl p q i j) ∧ P.spec_ryStage.f k l kd fl p q (i : Int) (j : Int) = some (stageB l kd fl p q i j) := by
  have h := need_eq hp hk hf p q hi hj k hk1
  have hb := needOf_bd (kd := kd) hp hf hi hj
  simp only [P.impl_stagePossible.f, P.spec_ryStage.f, h.1, h.2, Option.bind_some]
  rw [w64 (by omega) (by omega)]
  exact ⟨rfl, rfl⟩
end
theorem relayOk_spec {a b c d : Int} (h : relayOk a b c d = true) : (0 ≤ a ∧ a ≤ 3) ∧ (0 ≤ b ∧ b ≤ 3000) ∧ (100 ≤ c ∧ c ≤ 2000) ∧ (0 ≤ d ∧ d ≤ 2000) ∧ 10 ≤ d := by
  simp only [relayOk, decide_eq_true_eq] at h
  omega
/-- What is asked of the first two arguments. -/
theorem asked_eq (l : List Pt) (a b c d : Int) (k : Nat) (hk : 50 < k) : P.spec_ryAsked.f k l a b c d = some (profB l && relayOk a b c d) := by
  simp only [P.spec_ryAsked.f, ryProfile_eq l k hk, Option.bind_some, ryGood_eq]
  by_cases h : profB l = true
  · rw [if_pos h, h, Bool.true_and]
  · rw [if_neg h, Bool.eq_false_iff.2 h, Bool.false_and]
end Go.Proofs.Ytjffblojognlbaa
