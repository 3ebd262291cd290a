/- The fewest pumps from each point on: two ways to compute them agree. No program in sight. Conditions: none. -/
import Derived.Test.YtjffblojognlbaaKit
namespace Go.Proofs.Ytjffblojognlbaa
open Go.RowKit
set_option linter.unusedSimpArgs false
set_option linter.unusedVariables false
namespace Pump
abbrev g (l : List Int) (j : Nat) : Int := l.getD j 0
theorem g_set (l : List Int) (i j : Nat) (v : Int) (h : i < l.length) : g (l.set i v) j = if i = j then v else g l j := by
  simp only [g, List.getD_eq_getElem?_getD, List.getElem?_set]
  by_cases e : i = j
  · subst e; simp [h]
  · simp [e]
section
variable (st : Nat → Nat → Bool)
def stepS (F : List Int) (i tt : Nat) : List Int := if 0 ≤ g F tt ∧ st i tt = true ∧ (g F i < 0 ∨ wrap64 (g F tt + 1) < g F i) then F.set i (wrap64 (g F tt + 1)) else F
def stepI (G N : List Int) (i tt : Nat) : List Int × List Int := if st i tt = true ∧ wrap64 (g G tt + 1) < g G i then (G.set i (wrap64 (g G tt + 1)), N.set i (tt : Int)) else (G, N)
def inS (i : Nat) : Nat → List Int → Nat → List Int
  | 0, F, _ => F
  | d + 1, F, tt => inS i d (stepS st F i tt) (tt + 1)
def inI (i : Nat) : Nat → List Int → List Int → Nat → List Int × List Int
  | 0, G, N, _ => (G, N)
  | d + 1, G, N, tt => inI i d (stepI st G N i tt).1 (stepI st G N i tt).2 (tt + 1)
def outS (last : Nat) : Nat → List Int → List Int
  | 0, F => F
  | i + 1, F => outS last i (inS st i (last - i) (F.set i (-1)) (i + 1))
def outI (last : Nat) : Nat → List Int → List Int → List Int × List Int
  | 0, G, N => (G, N)
  | i + 1, G, N => outI last i (inI st i (last - i) (G.set i 41) N (i + 1)).1 (inI st i (last - i) (G.set i 41) N (i + 1)).2
/-- The next point of a plan with the fewest pumps. -/
def Nx (last : Nat) (F N : List Int) (j : Nat) : Prop := ∃ u : Nat, g N j = u ∧ j < u ∧ u ≤ last ∧ st j u = true ∧ g F u = g F j - 1 ∧ 0 ≤ g F u ∧ ∀ w, j < w → w < u → ¬ (st j w = true ∧ g F w = g F j - 1)
structure Rel (last i : Nat) (F G N : List Int) : Prop where
  lenF : F.length = last + 1
  lenG : G.length = last + 1
  lenN : N.length = last + 1
  z : g F last = 0
  v : ∀ j, i ≤ j → j ≤ last → -1 ≤ g F j ∧ g F j ≤ (last : Int) - j ∧ g G j = if g F j < 0 then 41 else g F j
  nx : ∀ j, i ≤ j → j < last → 0 ≤ g F j → Nx st last F N j
structure Cur (last i tt : Nat) (F G N : List Int) : Prop where
  v : -1 ≤ g F i ∧ g F i ≤ (last : Int) - i ∧ g G i = if g F i < 0 then 41 else g F i
  nx : 0 ≤ g F i → Nx st last F N i
  low : ∀ u, i < u → u < tt → st i u = true → 0 ≤ g F u → 0 ≤ g F i ∧ g F i ≤ g F u + 1
  below : 0 ≤ g F i → ∃ u : Nat, g N i = u ∧ u < tt
theorem Rel.set {last i : Nat} {F G N : List Int} (h : Rel st last (i + 1) F G N) (hi : i < last) (a b c : Int) : Rel st last (i + 1) (F.set i a) (G.set i b) (N.set i c) := by
  have hF := h.lenF
  have hG := h.lenG
  have hN := h.lenN
  refine ⟨by simp [hF], by simp [hG], by simp [hN], ?_, fun j h1 h2 => ?_, fun j h1 h2 h3 => ?_⟩
  · rw [g_set _ _ _ _ (by omega), if_neg (by omega)]; exact h.z
  · rw [g_set _ _ _ _ (by omega), if_neg (by omega), g_set _ _ _ _ (by omega), if_neg (by omega)]; exact h.v j h1 h2
  · rw [g_set _ _ _ _ (by omega), if_neg (by omega)] at h3
    obtain ⟨u, e1, e2, e3, e4, e5, e7, e6⟩ := h.nx j h1 h2 h3
    refine ⟨u, ?_, e2, e3, e4, ?_, ?_, fun w w1 w2 => ?_⟩
    · rw [g_set _ _ _ _ (by omega), if_neg (by omega)]; exact e1
    · rw [g_set _ _ _ _ (by omega), if_neg (by omega), g_set _ _ _ _ (by omega), if_neg (by omega)]; exact e5
    · rw [g_set _ _ _ _ (by omega), if_neg (by omega)]; exact e7
    · rw [g_set _ _ _ _ (by omega), if_neg (by omega), g_set _ _ _ _ (by omega), if_neg (by omega)]; exact e6 w w1 w2
theorem set_self (l : List Int) (i : Nat) (h : i < l.length) : l.set i (g l i) = l := by
  apply List.ext_getElem?
  intro j
  rw [List.getElem?_set]
  split
  · next e => subst e; simp [g, List.getD_eq_getElem?_getD, h]
  · rfl
theorem step_rel {last i tt : Nat} {F G N : List Int} (hl : last ≤ 39) (h : Rel st last (i + 1) F G N) (hi : i < last) (h1 : i < tt) (h2 : tt ≤ last) (c : Cur st last i tt F G N) :
    Rel st last (i + 1) (stepS st F i tt) (stepI st G N i tt).1 (stepI st G N i tt).2 ∧ Cur st last i (tt + 1) (stepS st F i tt) (stepI st G N i tt).1 (stepI st G N i tt).2 := by
  have vt := h.v tt (by omega) h2
  have vi := c.v
  have hF := h.lenF
  have hG := h.lenG
  have hN := h.lenN
  have hw : wrap64 (g F tt + 1) = g F tt + 1 := w64 (by omega) (by omega)
  have hwG : wrap64 (g G tt + 1) = g G tt + 1 := by
    rw [vt.2.2]
    split
    · exact w64 (by omega) (by omega)
    · exact w64 (by omega) (by omega)
  by_cases hst : st i tt = true
  · by_cases hc : 0 ≤ g F tt ∧ (g F i < 0 ∨ g F tt + 1 < g F i)
    · have e1 : stepS st F i tt = F.set i (g F tt + 1) := by unfold stepS; rw [hw, if_pos ⟨hc.1, hst, hc.2⟩]
      have hG2 : g G tt = g F tt := by rw [vt.2.2, if_neg (by omega)]
      have e2 : stepI st G N i tt = (G.set i (g F tt + 1), N.set i (tt : Int)) := by
        have hlt : g F tt + 1 < g G i := by
          rw [vi.2.2]
          split <;> omega
        unfold stepI
        rw [hwG, hG2, if_pos ⟨hst, hlt⟩]
      rw [e1, e2]
      refine ⟨h.set st hi _ _ _, ?_, fun _ => ⟨tt, ?_, h1, h2, hst, ?_, ?_, fun w w1 w2 => ?_⟩, fun u u1 u2 u3 u4 => ?_, fun _ => ⟨tt, ?_, by omega⟩⟩
      · rw [g_set _ _ _ _ (by omega), if_pos rfl, g_set _ _ _ _ (by omega), if_pos rfl, if_neg (by omega)]
        exact ⟨by omega, by omega, rfl⟩
      · rw [g_set _ _ _ _ (by omega), if_pos rfl]
      · rw [g_set _ _ _ _ (by omega), if_neg (by omega), g_set _ _ _ _ (by omega), if_pos rfl]; omega
      · rw [g_set _ _ _ _ (by omega), if_neg (by omega)]; exact hc.1
      · rw [g_set _ _ _ _ (by omega), if_neg (by omega), g_set _ _ _ _ (by omega), if_pos rfl]
        intro ⟨q1, q2⟩
        have := c.low w w1 w2 q1 (by omega)
        omega
      · rw [g_set _ _ _ _ (by omega), if_neg (by omega)] at u4
        rw [g_set _ _ _ _ (by omega), if_pos rfl, g_set _ _ _ _ (by omega), if_neg (by omega)]
        by_cases e : u = tt
        · subst e; omega
        · have := c.low u u1 (by omega) u3 u4
          omega
      · rw [g_set _ _ _ _ (by omega), if_pos rfl]
    · have e1 : stepS st F i tt = F := by unfold stepS; rw [hw, if_neg (fun q => hc ⟨q.1, q.2.2⟩)]
      have e2 : stepI st G N i tt = (G, N) := by
        unfold stepI
        rw [hwG, if_neg (fun q => ?_)]
        have q2 := q.2
        rw [vt.2.2, vi.2.2] at q2
        by_cases q3 : g F tt < 0
        · rw [if_pos q3] at q2
          split at q2 <;> omega
        · rw [if_neg q3] at q2
          apply hc
          split at q2 <;> omega
      rw [e1, e2]
      refine ⟨h, c.v, c.nx, fun u u1 u2 u3 u4 => ?_, fun q => ?_⟩
      · by_cases e : u = tt
        · subst e; omega
        · exact c.low u u1 (by omega) u3 u4
      · obtain ⟨u, q1, q2⟩ := c.below q
        exact ⟨u, q1, by omega⟩
  · have e1 : stepS st F i tt = F := by unfold stepS; rw [if_neg (fun q => hst q.2.1)]
    have e2 : stepI st G N i tt = (G, N) := by unfold stepI; rw [if_neg (fun q => hst q.1)]
    rw [e1, e2]
    refine ⟨h, c.v, c.nx, fun u u1 u2 u3 u4 => ?_, fun q => ?_⟩
    · by_cases e : u = tt
      · subst e; exact absurd u3 hst
      · exact c.low u u1 (by omega) u3 u4
    · obtain ⟨u, q1, q2⟩ := c.below q
      exact ⟨u, q1, by omega⟩
theorem in_rel {last i : Nat} (hl : last ≤ 39) (hi : i < last) : ∀ (d : Nat) {tt : Nat} {F G N : List Int}, tt + d = last + 1 → i < tt → Rel st last (i + 1) F G N → Cur st last i tt F G N →
    Rel st last i (inS st i d F tt) (inI st i d G N tt).1 (inI st i d G N tt).2
  | 0, tt, F, G, N, h, h1, r, c => ⟨r.lenF, r.lenG, r.lenN, r.z, fun j j1 j2 => by
      by_cases e : j = i
      · subst e; exact c.v
      · exact r.v j (by omega) j2, fun j j1 j2 j3 => by
      by_cases e : j = i
      · subst e; exact c.nx j3
      · exact r.nx j (by omega) j2 j3⟩
  | d + 1, tt, F, G, N, h, h1, r, c => by
    obtain ⟨r', c'⟩ := step_rel st hl r hi h1 (by omega) c
    exact in_rel hl hi d (by omega) (by omega) r' c'
theorem out_rel {last : Nat} (hl : last ≤ 39) : ∀ (i : Nat) {F G N : List Int}, i ≤ last → Rel st last i F G N → Rel st last 0 (outS st last i F) (outI st last i G N).1 (outI st last i G N).2
  | 0, F, G, N, h, r => r
  | i + 1, F, G, N, h, r => by
    have hN := r.lenN
    have hF := r.lenF
    have hG := r.lenG
    have r1 := r.set st (i := i) (by omega) (-1) 41 (g N i)
    rw [set_self _ _ (by omega)] at r1
    refine out_rel hl i (by omega) (in_rel st hl (by omega) (last - i) (by omega) (by omega) r1 ⟨?_, fun q => ?_, fun u u1 u2 => by omega, fun q => ?_⟩)
    · rw [g_set _ _ _ _ (by omega), if_pos rfl, g_set _ _ _ _ (by omega), if_pos rfl, if_pos (by omega)]; omega
    · rw [g_set _ _ _ _ (by omega), if_pos rfl] at q; omega
    · rw [g_set _ _ _ _ (by omega), if_pos rfl] at q; omega
theorem zeros_rel (last : Nat) : Rel st last last (List.replicate (last + 1) 0) (List.replicate (last + 1) 0) (List.replicate (last + 1) 0) := by
  have hz : ∀ j, g (List.replicate (last + 1) (0 : Int)) j = 0 := by
    intro j
    simp only [g, List.getD_eq_getElem?_getD, List.getElem?_replicate]
    split <;> rfl
  refine ⟨by simp, by simp, by simp, hz _, fun j h1 h2 => ?_, fun j h1 h2 => by omega⟩
  rw [hz, if_neg (by omega)]
  omega
theorem inS_length (i : Nat) : ∀ (d : Nat) (F : List Int) (tt : Nat), (inS st i d F tt).length = F.length
  | 0, F, tt => rfl
  | d + 1, F, tt => by
    simp only [inS]
    rw [inS_length i d]
    unfold stepS
    split
    · simp
    · rfl
theorem inI_length (i : Nat) : ∀ (d : Nat) (G N : List Int) (tt : Nat), (inI st i d G N tt).1.length = G.length ∧ (inI st i d G N tt).2.length = N.length
  | 0, G, N, tt => ⟨rfl, rfl⟩
  | d + 1, G, N, tt => by
    simp only [inI]
    have := inI_length i d (stepI st G N i tt).1 (stepI st G N i tt).2 (tt + 1)
    rw [this.1, this.2]
    unfold stepI
    split
    · simp
    · exact ⟨rfl, rfl⟩
end
end Pump
end Go.Proofs.Ytjffblojognlbaa
