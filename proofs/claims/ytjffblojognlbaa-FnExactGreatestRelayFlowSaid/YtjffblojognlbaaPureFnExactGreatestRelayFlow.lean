/- GreatestRelayFlow: the plain law. Conditions: none. -/
import Derived.Test.YtjffblojognlbaaStmtFnExactGreatestRelayFlow
import Derived.Test.YtjffblojognlbaaPumps
namespace Go.Proofs.Ytjffblojognlbaa
open Go.RowKit Go.Proofs.YtjffblojognlbaaW.PrintWords
set_option linter.unusedSimpArgs false
set_option linter.unusedVariables false
/-- A flow is enough for as many pumps: what both sides say of it. -/
def FlowOk (l : List Pt) (kd p q pumps fl : Int) (b : Bool) : Prop := ∃ v : List Int × Bool, (∃ K, ∀ k, K ≤ k → P.impl_pumpPlaces.f k l kd fl p q = some v ∧ P.spec_ryPumps.f k l kd fl p q = some v) ∧ b = (v.2 && decide ((v.1.length : Int) ≤ pumps))
theorem great_l0 {l : List Pt} {kd p q pumps : Int} (hp : profB l = true) (hk : 0 ≤ kd ∧ kd ≤ 3) (hq : 0 ≤ q ∧ q ≤ 2000) : ∀ (d : Nat) (low high fl : Int), 0 ≤ low → high ≤ 3000 → low ≤ high → high - low ≤ (d : Int) → (low = 0 ∨ FlowOk l kd p q pumps low true) → (high = 3000 ∨ FlowOk l kd p q pumps (high + 1) false) →
    ∃ v : Int, (0 ≤ v ∧ v ≤ 3000 ∧ (v = 0 ∨ FlowOk l kd p q pumps v true) ∧ (v = 3000 ∨ FlowOk l kd p q pumps (v + 1) false)) ∧ (∀ fl, Ev (fun k => P.impl_GreatestRelayFlow.l0 k l pumps low high kd fl p q) (v, decide (v > 0))) ∧ (∀ fl, Ev (fun k => P.spec_GreatestRelayFlow.l0 k l pumps low (high + 1) kd fl p q) (v, decide (v > 0))) := by
  intro d
  induction d using Nat.strongRecOn with
  | ind d ih =>
    intro low high fl h1 h2 h3 h4 h5 h6
    by_cases hlt : low < high
    · obtain ⟨m, hm, hm1, hm2⟩ : ∃ m : Int, m = (low + high + 1) / 2 ∧ low < m ∧ m ≤ high := ⟨_, rfl, by omega, by omega⟩
      have hmI : wrap64 (Int.tdiv (wrap64 (wrap64 (low + high) + 1)) 2) = m := by
        rw [w64 (x := low + high) (by omega) (by omega), w64 (x := low + high + 1) (by omega) (by omega), Int.tdiv_eq_ediv_of_nonneg (by omega), w64 (by omega) (by omega), hm]
      have hmS : wrap64 (Int.tdiv (wrap64 (low + (high + 1))) 2) = m := by
        rw [w64 (x := low + (high + 1)) (by omega) (by omega), Int.tdiv_eq_ediv_of_nonneg (by omega), w64 (by omega) (by omega), hm, Int.add_assoc]
      have hm3 : wrap64 (m - 1) = m - 1 := w64 (by omega) (by omega)
      have hd : wrap64 (high + 1 - low) = high + 1 - low := w64 (by omega) (by omega)
      obtain ⟨v, hv, K, hv2⟩ := pumps_same (p := p) (fl := m) hp hk (by omega) hq
      by_cases hc : (v.2 && decide ((v.1.length : Int) ≤ pumps)) = true
      · obtain ⟨r, hr, e1, e2⟩ := ih (high - m).toNat (by omega) m high m (by omega) h2 (by omega) (by omega) (.inr ⟨v, ⟨K, hv2⟩, hc.symm⟩) h6
        have hc2 := hc
        simp only [Bool.and_eq_true, decide_eq_true_eq] at hc2
        refine ⟨r, hr, fun fl => ev_step K (fun k hk1 => ?_) (e1 m), fun fl => ev_step K (fun k hk1 => ?_) (e2 m)⟩
        · simp only [P.impl_GreatestRelayFlow.l0, hmI, (hv2 k hk1).1, Option.bind_some]
          rw [if_pos hlt, if_pos hc2.1, if_pos hc2.2]
        · simp only [P.spec_GreatestRelayFlow.l0, hmS, (hv2 k hk1).2, Option.bind_some, hd]
          rw [if_pos (by omega), if_pos hc2.1, if_pos hc2.2]
      · obtain ⟨r, hr, e1, e2⟩ := ih (m - 1 - low).toNat (by omega) low (m - 1) m h1 (by omega) (by omega) (by omega) h5 (.inr ⟨v, ⟨by rw [Int.sub_add_cancel]; exact ⟨K, hv2⟩, (Bool.eq_false_iff.2 hc).symm⟩⟩)
        rw [Int.sub_add_cancel] at e2
        simp only [Bool.and_eq_true, decide_eq_true_eq] at hc
        refine ⟨r, hr, fun fl => ev_step K (fun k hk1 => ?_) (e1 m), fun fl => ev_step K (fun k hk1 => ?_) (e2 m)⟩
        · simp only [P.impl_GreatestRelayFlow.l0, hmI, (hv2 k hk1).1, Option.bind_some, hm3]
          rw [if_pos hlt]
          by_cases hc1 : v.2 = true
          · rw [if_pos hc1, if_neg (fun h => hc ⟨hc1, h⟩)]
          · rw [if_neg hc1]
        · simp only [P.spec_GreatestRelayFlow.l0, hmS, (hv2 k hk1).2, Option.bind_some, hd]
          rw [if_pos (by omega)]
          by_cases hc1 : v.2 = true
          · rw [if_pos hc1, if_neg (fun h => hc ⟨hc1, h⟩)]
          · rw [if_neg hc1]
    · obtain rfl : low = high := by omega
      have hd : wrap64 (low + 1 - low) = 1 := by rw [w64 (by omega) (by omega)]; omega
      refine ⟨low, ⟨h1, h2, h5, h6⟩, fun fl => ev_end 0 (fun k _ => ?_), fun fl => ev_end 0 (fun k _ => ?_)⟩
      · simp only [P.impl_GreatestRelayFlow.l0]
        rw [if_neg hlt]
      · simp only [P.spec_GreatestRelayFlow.l0, hd]
        rw [if_neg (by omega)]
theorem greatest_same (l : List Pt) (hin : PtsIn l) (a b c d : Int) (hc : -9223372036854775808 ≤ c ∧ c ≤ 9223372036854775807) (i : Int) :
    ∃ v : Int × Bool, ((profB l = true ∧ relayOk a b c d = true ∧ 1 ≤ i ∧ i ≤ 40) ∧ 0 ≤ v.1 ∧ v.1 ≤ 3000 ∧ v.2 = decide (v.1 > 0) ∧ (v.1 = 0 ∨ FlowOk l a c d i v.1 true) ∧ (v.1 = 3000 ∨ FlowOk l a c d i (v.1 + 1) false) ∨ v = (0, false)) ∧ ∃ K, ∀ k, K ≤ k → P.impl_GreatestRelayFlow.f k l a b c d i = some v ∧ P.spec_GreatestRelayFlow.f k l a b c d i = some v := by
  by_cases hp : profB l = true
  · by_cases hr : relayOk a b c d = true
    · obtain ⟨r1, r2, r3, r4, _⟩ := relayOk_spec hr
      by_cases hi : 1 ≤ i ∧ i ≤ 40
      · obtain ⟨v, hv, e1, e2⟩ := great_l0 (p := c) (pumps := i) hp r1 r4 3000 0 3000 b (by omega) (by omega) (by omega) (by omega) (.inl rfl) (.inl rfl)
        obtain ⟨K, h⟩ := ev_both (e1 b) (e2 b)
        refine ⟨(v, decide (v > 0)), .inl ⟨⟨hp, hr, hi.1, hi.2⟩, hv.1, hv.2.1, rfl, hv.2.2.1, hv.2.2.2⟩, K + 60, fun k hk => ?_⟩
        obtain ⟨k, rfl⟩ : ∃ m, k = m + 1 := ⟨k - 1, by omega⟩
        obtain ⟨h1, h2⟩ := h k (by omega)
        simp only [P.impl_GreatestRelayFlow.f, P.spec_GreatestRelayFlow.f, isProfile_eq l hin (k + 1) (by omega), asked_eq l a b c d (k + 1) (by omega), hp, hr, isRelay_eq a b c d hc, Option.bind_some, if_true, Bool.and_self, inside_eq, l1In_eq, decide_eq_true hi,
          P.impl_GreatestRelayFlow.j0, P.spec_GreatestRelayFlow.j0, Bool.not_true, Bool.false_eq_true, if_false]
        exact ⟨h1, h2⟩
      · refine ⟨(0, false), .inr rfl, 60, fun k hk => ?_⟩
        obtain ⟨k, rfl⟩ : ∃ m, k = m + 1 := ⟨k - 1, by omega⟩
        simp only [P.impl_GreatestRelayFlow.f, P.spec_GreatestRelayFlow.f, isProfile_eq l hin (k + 1) (by omega), asked_eq l a b c d (k + 1) (by omega), hp, hr, isRelay_eq a b c d hc, Option.bind_some, if_true, Bool.and_self, inside_eq, l1In_eq, decide_eq_false hi,
          P.impl_GreatestRelayFlow.j0, P.spec_GreatestRelayFlow.j0, Bool.not_false, and_self]
    · refine ⟨(0, false), .inr rfl, 60, fun k hk => ?_⟩
      obtain ⟨k, rfl⟩ : ∃ m, k = m + 1 := ⟨k - 1, by omega⟩
      simp only [P.impl_GreatestRelayFlow.f, P.spec_GreatestRelayFlow.f, isProfile_eq l hin (k + 1) (by omega), asked_eq l a b c d (k + 1) (by omega), hp, Bool.eq_false_iff.2 hr, isRelay_eq a b c d hc, Option.bind_some, if_true, Bool.true_and,
          P.impl_GreatestRelayFlow.j0, P.spec_GreatestRelayFlow.j0, Bool.false_eq_true, if_false, and_self]
  · refine ⟨(0, false), .inr rfl, 60, fun k hk => ?_⟩
    obtain ⟨k, rfl⟩ : ∃ m, k = m + 1 := ⟨k - 1, by omega⟩
    simp only [P.impl_GreatestRelayFlow.f, P.spec_GreatestRelayFlow.f, isProfile_eq l hin (k + 1) (by omega), asked_eq l a b c d (k + 1) (by omega), Bool.eq_false_iff.2 hp, Option.bind_some, if_true, Bool.false_and,
          P.impl_GreatestRelayFlow.j0, P.spec_GreatestRelayFlow.j0, Bool.false_eq_true, if_false, and_self]
theorem FnExactGreatestRelayFlow.pure : FnExactGreatestRelayFlow.Said := by
  intro l x i ⟨hl, hw⟩ hx hi
  by_cases h : l.length ≤ 1048576
  · obtain ⟨v, _, K, hv⟩ := greatest_same (l.map toPt) (ptsIn_map l hw) x.f0 x.f1 x.f2 x.f3 (bound_i64 hx.2.2.1) i
    obtain ⟨k, hk⟩ : ∃ k : Nat, K + l.length + 60 ≤ k := ⟨_, Nat.le_refl _⟩
    refine ⟨k + 1, ?_⟩
    simp only [P.laws_FnExactGreatestRelayFlow.f, szPointS_eq l hl, Option.bind_some]
    rw [if_pos h, if_neg (by omega)]
    obtain ⟨hv1, hv2⟩ := hv (k + 1) (by omega)
    simp only [toPointS_eq l h (k + 1) (by omega), toRelay_eq, Option.bind_some, hv1, hv2, if_true, P.laws_FnExactGreatestRelayFlow.j0, toPointS_eq l h k (by omega), bne_self_eq_false, Bool.false_eq_true, if_false,
      eqPointS_refl (l.map toPt) (by simpa using h) k (by simp; omega)]
  · refine ⟨1, ?_⟩
    simp only [P.laws_FnExactGreatestRelayFlow.f, szPointS_eq l hl, Option.bind_some]
    rw [if_neg h, if_pos (by omega)]
end Go.Proofs.Ytjffblojognlbaa
