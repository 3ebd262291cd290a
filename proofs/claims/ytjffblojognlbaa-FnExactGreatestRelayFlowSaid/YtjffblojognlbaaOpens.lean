/- What an argument that reads as data is, as the printed texts' kinds say it: generic over the type. Conditions: none of our own. -/
import Derived.Test.YtjffblojognlbaaWWords
import Derived.Deep.Slices
import Derived.WideShapes
import Derived.ChangeSame
import Derived.DataReads
namespace Go.Proofs.Ytjffblojognlbaa.Opens
open Go.RowKit Go.Proofs.YtjffblojognlbaaW.PrintWords
open Go.WideShapes

/-- Data of type T is of kind d, and Q holds of it. -/
def Opn {α : Type} (P : Program) (T : TypeId) (d : Kd α) (Q : α → Prop) : Prop :=
  ∀ (H : Type) (enc : TypeId × Value → H) (W : World) (fuel : Nat) (cs : List Value) (x : DataW H × List MemPlace), DataW.trod enc P W 0 (fun _ => true) true fuel T cs = some x → ∃ a, d.K W a cs ∧ Q a

theorem opn_int {P : Program} {T : TypeId} {k : IntKind} (hu : P.underlying T = some (.int k)) : Opn P T (Kd.int k) (fun a => (Lit.int k a).wf = true) := by
  intro H enc W fuel cs x h
  cases fuel with
  | zero => simp [DataW.trod] at h
  | succ n =>
    simp only [DataW.trod, hu] at h
    split at h
    all_goals first | (cases h; done) | skip
    all_goals simp_all [Kd.int, Kd.scalar]

theorem opn_bool {P : Program} {T : TypeId} (hu : P.underlying T = some .bool) : Opn P T Kd.bool (fun _ => True) := by
  intro H enc W fuel cs x h
  cases fuel with
  | zero => simp [DataW.trod] at h
  | succ n =>
    simp only [DataW.trod, hu] at h
    split at h
    all_goals first | (cases h; done) | skip
    all_goals simp_all [Kd.bool, Kd.scalar]

theorem opn_string {P : Program} {T : TypeId} (hu : P.underlying T = some .string) : Opn P T Kd.string (fun s => s.size ≤ maxLen) := by
  intro H enc W fuel cs x h
  cases fuel with
  | zero => simp [DataW.trod] at h
  | succ n =>
    simp only [DataW.trod, hu] at h
    split at h
    all_goals first | (cases h; done) | skip
    all_goals simp_all [Kd.string, Kd.scalar]


/-- Some fields of a struct, from number i and cell off on. -/
def OpnFs {α : Type} (P : Program) (fs : Array Field) (i off : Nat) (d : Kd α) (Q : α → Prop) : Prop :=
  ∀ (H : Type) (enc : TypeId × Value → H) (W : World) (n : Nat) (cs : List Value), (∀ j f, i ≤ j → fs[j]? = some f → ∃ y, DataW.trod enc P W 0 (fun _ => true) true n f.type ((cs.drop f.offset).take (P.cellsOf f.type)) = some y) →
    cs.length = off + d.sz → ∃ a, d.K W a (cs.drop off) ∧ Q a

theorem opnFs_last {α : Type} {P : Program} {fs : Array Field} {i off : Nat} {d : Kd α} {Q : α → Prop} (f : Field) (hf : fs[i]? = some f) (ho : f.offset = off) (hs : P.cellsOf f.type = d.sz) (h : Opn P f.type d Q) : OpnFs P fs i off d Q := by
  intro H enc W n cs g hl
  obtain ⟨y, hy⟩ := g i f (Nat.le_refl _) hf
  rw [ho, hs, List.take_of_length_le (by rw [List.length_drop]; omega)] at hy
  exact h H enc W n _ y hy

theorem opnFs_cons {α β : Type} {P : Program} {fs : Array Field} {i off : Nat} {d : Kd α} {d2 : Kd β} {Q : α → Prop} {Q2 : β → Prop} (f : Field) (hf : fs[i]? = some f) (ho : f.offset = off) (hs : P.cellsOf f.type = d.sz) (h : Opn P f.type d Q)
    (h2 : OpnFs P fs (i + 1) (off + d.sz) d2 Q2) : OpnFs P fs i off (Kd.pair d d2) (fun p => Q p.1 ∧ Q2 p.2) := by
  intro H enc W n cs g hl
  obtain ⟨y, hy⟩ := g i f (Nat.le_refl _) hf
  rw [ho, hs] at hy
  have hl' : cs.length = off + (d.sz + d2.sz) := hl
  obtain ⟨a, ha, qa⟩ := h H enc W n _ y hy
  obtain ⟨b, hb, qb⟩ := h2 H enc W n cs (fun j f hj => g j f (by omega)) (by omega)
  refine ⟨(a, b), ⟨(cs.drop off).take d.sz, cs.drop (off + d.sz), ?_, ha, hb⟩, qa, qb⟩
  rw [← List.drop_drop, List.take_append_drop]

theorem opn_struct {α β : Type} {P : Program} {T : TypeId} {fs : Array Field} {d : Kd α} {Q : α → Prop} {f : β → α} (g : α → β) (hg : ∀ a, f (g a) = a) (hu : P.underlying T = some (.struct fs)) (hc : P.cellsOf T = d.sz) (h : OpnFs P fs 0 0 d Q) :
    Opn P T (Kd.iso d f) (fun b => Q (f b)) := by
  intro H enc W fuel cs x hx
  obtain ⟨xs, n, _, _, hl, hlen, hf⟩ := DataW.trod_struct hu hx
  obtain ⟨a, ha, qa⟩ := h H enc W n cs (fun j f _ hj => by
    have := hf j f hj
    have hj2 : j < xs.length := by
      have := (Array.getElem?_eq_some_iff.1 hj).1
      omega
    rw [List.getElem?_eq_getElem hj2] at this
    exact ⟨_, this⟩) (by rw [hl, hc]; omega)
  refine ⟨g a, ?_, ?_⟩
  · show d.K W (f (g a)) cs
    rw [hg]
    simpa using ha
  · show Q (f (g a))
    rw [hg]
    exact qa

theorem cells_each {w : World} {a : Addr} {n : Nat} {cs : List Value} (h : w.cells? 0 a n = some cs) : cs.length = n ∧ ∀ i u, cs[i]? = some u → w.cell? (a.add i) = some u := by
  simp only [World.cells?, Nat.zero_le, if_true] at h
  have hl : cs.length = n := by have := mapM_some_length h; simpa using this
  refine ⟨hl, fun i u hu => ?_⟩
  have hi : i < n := by
    have := (List.getElem?_eq_some_iff.1 hu).1
    omega
  rw [← hu]
  exact mapM_some_get h i i (by rw [List.getElem?_range hi])

theorem opn_slice {α : Type} {P : Program} {T e : TypeId} {d : Kd α} {Q : α → Prop} (E : Nat) (hu : P.underlying T = some (.slice e)) (hc : P.cellsOf e = d.sz) (he : Opn P e d Q) :
    Opn P T (Kd.slice E d) (fun l => l.length ≤ maxLen ∧ ∀ x ∈ l, Q x) := by
  intro H enc W fuel cs x hx
  rcases Go.Deep.open_slice hu hx with ⟨rfl, _⟩ | ⟨a, len, cap, m, n, D, Pl, rfl, _, hlc, hcm, hm, _, hel⟩
  · exact ⟨[], ⟨none, 0, rfl, Nat.le_refl _, rfl, by simp, fun h => absurd h (by simp)⟩, by simp, by simp⟩
  have hel' : ∀ i, i < len → ∃ y, (∃ c, W.cells? 0 (a.add (i * P.cellsOf e)) (P.cellsOf e) = some c ∧ d.K W y c) ∧ Q y := by
    intro i hi
    obtain ⟨c, h1, h2⟩ := hel i (by rw [hm]; simp; omega)
    obtain ⟨y, hy, hq⟩ := he H enc W n c _ h2
    exact ⟨y, ⟨c, h1, hy⟩, hq⟩
  have hex : ∃ l : List α, l.length = len ∧ ∀ i y, l[i]? = some y → (∃ c, W.cells? 0 (a.add (i * P.cellsOf e)) (P.cellsOf e) = some c ∧ d.K W y c) ∧ Q y := by
    revert hel'
    generalize len = q
    intro hel'
    clear hx hel
    induction q with
    | zero => exact ⟨[], rfl, by simp⟩
    | succ k ih =>
      obtain ⟨l, hl, hp⟩ := ih (fun i hi => hel' i (by omega))
      obtain ⟨y, hy⟩ := hel' k (by omega)
      refine ⟨l ++ [y], by simp [hl], fun i z hz => ?_⟩
      by_cases hi : i < l.length
      · rw [List.getElem?_append_left hi] at hz
        exact hp i z hz
      · have : i = k := by
          have := (List.getElem?_eq_some_iff.1 hz).1
          simp at this
          omega
        subst this
        rw [List.getElem?_append_right (by omega), hl] at hz
        simp at hz
        subst hz
        exact hy
  obtain ⟨l, hl, hp⟩ := hex
  refine ⟨l, ⟨some a, cap, by rw [hl], by omega, rfl, ?_, fun _ => ⟨a, rfl, ?_⟩⟩, by rw [hl]; omega, ?_⟩
  · rw [hl]
    simp only [maxLen] at hcm
    omega
  · intro j y hj
    obtain ⟨⟨c, h1, h2⟩, _⟩ := hp j y hj
    obtain ⟨h3, h4⟩ := cells_each h1
    refine ⟨c, by rw [h3, hc], h2, fun i u hi => ?_⟩
    rw [← hc, ← Go.Deep.add_add]
    exact h4 i u hi
  · intro y hy
    obtain ⟨i, hi, rfl⟩ := List.getElem_of_mem hy
    exact (hp i _ (List.getElem?_eq_getElem hi)).2

/-- A slice that is an argument. -/
theorem opn_slice_val {α : Type} {H : Type} {enc : TypeId × Value → H} {P : Program} {W : World} {T : TypeId} {E : Nat} {d : Kd α} {Q : List α → Prop} (h : Opn P T (Kd.slice E d) Q) {a : Option Addr} {len cap : Nat} {x : DataW H} {ps : List MemPlace}
    (ht : DataW.Trod enc P W 0 (fun _ => true) true T (.slice a len cap) x ps) : ∃ l : List α, len = l.length ∧ l.length ≤ cap ∧ d.C W a l.length l ∧ Q l := by
  obtain ⟨fuel, hf⟩ := ht
  obtain ⟨l, ⟨A, c, hcs, hl, hr⟩, hq⟩ := h H enc W fuel _ _ hf
  simp [Value.cells] at hcs
  obtain ⟨rfl, rfl, rfl⟩ := hcs
  exact ⟨l, rfl, hl, hr, hq⟩

end Go.Proofs.Ytjffblojognlbaa.Opens
