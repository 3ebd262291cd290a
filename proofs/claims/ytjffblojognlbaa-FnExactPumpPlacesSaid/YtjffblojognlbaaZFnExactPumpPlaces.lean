/- For every input the call of FnExactPumpPlaces returns true, and its arguments read afterwards as before. Conditions: none. -/
import Derived.Test.YtjffblojognlbaaWWords
import Derived.Test.YtjffblojognlbaaPx0
import Derived.Test.YtjffblojognlbaaPx44
import Derived.Test.YtjffblojognlbaaWNEv
import Derived.Test.YtjffblojognlbaaWMore
import Derived.Test.YtjffblojognlbaaPx3
import Derived.Test.YtjffblojognlbaaPx2
import Derived.Test.YtjffblojognlbaaPx16
import Derived.Test.YtjffblojognlbaaPx9
import Derived.Test.YtjffblojognlbaaPx10
import Derived.Test.YtjffblojognlbaaPx11
import Derived.Test.YtjffblojognlbaaPx13
import Derived.Test.YtjffblojognlbaaPx14
import Derived.Test.YtjffblojognlbaaPx17
import Derived.Test.YtjffblojognlbaaPx30
import Derived.Test.YtjffblojognlbaaPx26
import Derived.Test.YtjffblojognlbaaPx32
import Derived.Test.YtjffblojognlbaaPx28
import Derived.Test.YtjffblojognlbaaPx25
import Derived.Test.YtjffblojognlbaaPx37
import Derived.Test.YtjffblojognlbaaPx35
import Derived.Test.YtjffblojognlbaaPx41
import Derived.Test.YtjffblojognlbaaPx42
import Derived.Test.YtjffblojognlbaaPx43
import Derived.Test.YtjffblojognlbaaRows
import Derived.Deep.Slices
import Derived.WideShapes
import Derived.ChangeSame
import Derived.DataReads
import Derived.KernelRfl
import Derived.WalkKit
import Derived.ProofKit
import Derived.OpenShut
import Derived.ShutString
import Derived.ChangeOld
import Derived.Below
import Derived.SizedLaws
/- What an argument that reads as data is, as the printed texts' kinds say it: generic over the type. Conditions: none of our own. -/
namespace Go.Proofs.Ytjffblojognlbaa.Opens
open Go.RowKit Go.Proofs.YtjffblojognlbaaW.PrintWords
open Go.WideShapes

/-- Data of type T is of kind d, and Q holds of it. -/
def Opn {α : Type} (P : Program) (T : TypeId) (d : Kd α) (Q : α → Prop) : Prop :=
  ∀ (H : Type) (enc : TypeId × Value → H) (W : World) (fuel : Nat) (cs : List Value) (x : DataW H × List MemPlace), DataW.trod enc P W 0 (fun _ => true) true fuel T cs = some x → ∃ a, d.K W a cs ∧ Q a

theorem opn_int {P : Program} {T : TypeId} {k : IntKind} (hu : P.underlying T = some (.int k)) : Opn P T (Kd.int k) (fun a => (Lit.int k a).wf = true) := by
  intro H enc W fuel cs x h
  cases fuel with
  | zero => simp [DataW.trod] at h
  | succ n =>
    simp only [DataW.trod, hu] at h
    split at h
    all_goals first | (cases h; done) | skip
    all_goals simp_all [Kd.int, Kd.scalar]

theorem opn_bool {P : Program} {T : TypeId} (hu : P.underlying T = some .bool) : Opn P T Kd.bool (fun _ => True) := by
  intro H enc W fuel cs x h
  cases fuel with
  | zero => simp [DataW.trod] at h
  | succ n =>
    simp only [DataW.trod, hu] at h
    split at h
    all_goals first | (cases h; done) | skip
    all_goals simp_all [Kd.bool, Kd.scalar]

theorem opn_string {P : Program} {T : TypeId} (hu : P.underlying T = some .string) : Opn P T Kd.string (fun s => s.size ≤ maxLen) := by
  intro H enc W fuel cs x h
  cases fuel with
  | zero => simp [DataW.trod] at h
  | succ n =>
    simp only [DataW.trod, hu] at h
    split at h
    all_goals first | (cases h; done) | skip
    all_goals simp_all [Kd.string, Kd.scalar]


/-- Some fields of a struct, from number i and cell off on. -/
def OpnFs {α : Type} (P : Program) (fs : Array Field) (i off : Nat) (d : Kd α) (Q : α → Prop) : Prop :=
  ∀ (H : Type) (enc : TypeId × Value → H) (W : World) (n : Nat) (cs : List Value), (∀ j f, i ≤ j → fs[j]? = some f → ∃ y, DataW.trod enc P W 0 (fun _ => true) true n f.type ((cs.drop f.offset).take (P.cellsOf f.type)) = some y) →
    cs.length = off + d.sz → ∃ a, d.K W a (cs.drop off) ∧ Q a

theorem opnFs_last {α : Type} {P : Program} {fs : Array Field} {i off : Nat} {d : Kd α} {Q : α → Prop} (f : Field) (hf : fs[i]? = some f) (ho : f.offset = off) (hs : P.cellsOf f.type = d.sz) (h : Opn P f.type d Q) : OpnFs P fs i off d Q := by
  intro H enc W n cs g hl
  obtain ⟨y, hy⟩ := g i f (Nat.le_refl _) hf
  rw [ho, hs, List.take_of_length_le (by rw [List.length_drop]; omega)] at hy
  exact h H enc W n _ y hy

theorem opnFs_cons {α β : Type} {P : Program} {fs : Array Field} {i off : Nat} {d : Kd α} {d2 : Kd β} {Q : α → Prop} {Q2 : β → Prop} (f : Field) (hf : fs[i]? = some f) (ho : f.offset = off) (hs : P.cellsOf f.type = d.sz) (h : Opn P f.type d Q)
    (h2 : OpnFs P fs (i + 1) (off + d.sz) d2 Q2) : OpnFs P fs i off (Kd.pair d d2) (fun p => Q p.1 ∧ Q2 p.2) := by
  intro H enc W n cs g hl
  obtain ⟨y, hy⟩ := g i f (Nat.le_refl _) hf
  rw [ho, hs] at hy
  have hl' : cs.length = off + (d.sz + d2.sz) := hl
  obtain ⟨a, ha, qa⟩ := h H enc W n _ y hy
  obtain ⟨b, hb, qb⟩ := h2 H enc W n cs (fun j f hj => g j f (by omega)) (by omega)
  refine ⟨(a, b), ⟨(cs.drop off).take d.sz, cs.drop (off + d.sz), ?_, ha, hb⟩, qa, qb⟩
  rw [← List.drop_drop, List.take_append_drop]

theorem opn_struct {α β : Type} {P : Program} {T : TypeId} {fs : Array Field} {d : Kd α} {Q : α → Prop} {f : β → α} (g : α → β) (hg : ∀ a, f (g a) = a) (hu : P.underlying T = some (.struct fs)) (hc : P.cellsOf T = d.sz) (h : OpnFs P fs 0 0 d Q) :
    Opn P T (Kd.iso d f) (fun b => Q (f b)) := by
  intro H enc W fuel cs x hx
  obtain ⟨xs, n, _, _, hl, hlen, hf⟩ := DataW.trod_struct hu hx
  obtain ⟨a, ha, qa⟩ := h H enc W n cs (fun j f _ hj => by
    have := hf j f hj
    have hj2 : j < xs.length := by
      have := (Array.getElem?_eq_some_iff.1 hj).1
      omega
    rw [List.getElem?_eq_getElem hj2] at this
    exact ⟨_, this⟩) (by rw [hl, hc]; omega)
  refine ⟨g a, ?_, ?_⟩
  · show d.K W (f (g a)) cs
    rw [hg]
    simpa using ha
  · show Q (f (g a))
    rw [hg]
    exact qa

theorem cells_each {w : World} {a : Addr} {n : Nat} {cs : List Value} (h : w.cells? 0 a n = some cs) : cs.length = n ∧ ∀ i u, cs[i]? = some u → w.cell? (a.add i) = some u := by
  simp only [World.cells?, Nat.zero_le, if_true] at h
  have hl : cs.length = n := by have := mapM_some_length h; simpa using this
  refine ⟨hl, fun i u hu => ?_⟩
  have hi : i < n := by
    have := (List.getElem?_eq_some_iff.1 hu).1
    omega
  rw [← hu]
  exact mapM_some_get h i i (by rw [List.getElem?_range hi])

theorem opn_slice {α : Type} {P : Program} {T e : TypeId} {d : Kd α} {Q : α → Prop} (E : Nat) (hu : P.underlying T = some (.slice e)) (hc : P.cellsOf e = d.sz) (he : Opn P e d Q) :
    Opn P T (Kd.slice E d) (fun l => l.length ≤ maxLen ∧ ∀ x ∈ l, Q x) := by
  intro H enc W fuel cs x hx
  rcases Go.Deep.open_slice hu hx with ⟨rfl, _⟩ | ⟨a, len, cap, m, n, D, Pl, rfl, _, hlc, hcm, hm, _, hel⟩
  · exact ⟨[], ⟨none, 0, rfl, Nat.le_refl _, rfl, by simp, fun h => absurd h (by simp)⟩, by simp, by simp⟩
  have hel' : ∀ i, i < len → ∃ y, (∃ c, W.cells? 0 (a.add (i * P.cellsOf e)) (P.cellsOf e) = some c ∧ d.K W y c) ∧ Q y := by
    intro i hi
    obtain ⟨c, h1, h2⟩ := hel i (by rw [hm]; simp; omega)
    obtain ⟨y, hy, hq⟩ := he H enc W n c _ h2
    exact ⟨y, ⟨c, h1, hy⟩, hq⟩
  have hex : ∃ l : List α, l.length = len ∧ ∀ i y, l[i]? = some y → (∃ c, W.cells? 0 (a.add (i * P.cellsOf e)) (P.cellsOf e) = some c ∧ d.K W y c) ∧ Q y := by
    revert hel'
    generalize len = q
    intro hel'
    clear hx hel
    induction q with
    | zero => exact ⟨[], rfl, by simp⟩
    | succ k ih =>
      obtain ⟨l, hl, hp⟩ := ih (fun i hi => hel' i (by omega))
      obtain ⟨y, hy⟩ := hel' k (by omega)
      refine ⟨l ++ [y], by simp [hl], fun i z hz => ?_⟩
      by_cases hi : i < l.length
      · rw [List.getElem?_append_left hi] at hz
        exact hp i z hz
      · have : i = k := by
          have := (List.getElem?_eq_some_iff.1 hz).1
          simp at this
          omega
        subst this
        rw [List.getElem?_append_right (by omega), hl] at hz
        simp at hz
        subst hz
        exact hy
  obtain ⟨l, hl, hp⟩ := hex
  refine ⟨l, ⟨some a, cap, by rw [hl], by omega, rfl, ?_, fun _ => ⟨a, rfl, ?_⟩⟩, by rw [hl]; omega, ?_⟩
  · rw [hl]
    simp only [maxLen] at hcm
    omega
  · intro j y hj
    obtain ⟨⟨c, h1, h2⟩, _⟩ := hp j y hj
    obtain ⟨h3, h4⟩ := cells_each h1
    refine ⟨c, by rw [h3, hc], h2, fun i u hi => ?_⟩
    rw [← hc, ← Go.Deep.add_add]
    exact h4 i u hi
  · intro y hy
    obtain ⟨i, hi, rfl⟩ := List.getElem_of_mem hy
    exact (hp i _ (List.getElem?_eq_getElem hi)).2

/-- A slice that is an argument. -/
theorem opn_slice_val {α : Type} {H : Type} {enc : TypeId × Value → H} {P : Program} {W : World} {T : TypeId} {E : Nat} {d : Kd α} {Q : List α → Prop} (h : Opn P T (Kd.slice E d) Q) {a : Option Addr} {len cap : Nat} {x : DataW H} {ps : List MemPlace}
    (ht : DataW.Trod enc P W 0 (fun _ => true) true T (.slice a len cap) x ps) : ∃ l : List α, len = l.length ∧ l.length ≤ cap ∧ d.C W a l.length l ∧ Q l := by
  obtain ⟨fuel, hf⟩ := ht
  obtain ⟨l, ⟨A, c, hcs, hl, hr⟩, hq⟩ := h H enc W fuel _ _ hf
  simp [Value.cells] at hcs
  obtain ⟨rfl, rfl, rfl⟩ := hcs
  exact ⟨l, rfl, hl, hr, hq⟩

end Go.Proofs.Ytjffblojognlbaa.Opens

/- What each argument type of these statements reads as. Conditions: none of our own. -/
namespace Go.Proofs.Ytjffblojognlbaa
open Go.RowKit Go.Proofs.YtjffblojognlbaaW.PrintWords Go.Proofs.Ytjffblojognlbaa.Opens

namespace P
/-! #### struct type 23 -/
structure S23 where
  f0 : Int
  f1 : Int
  f2 : Int
  f3 : Int
def z23 : S23 := ⟨(0 : Int), (0 : Int), (0 : Int), (0 : Int)⟩
def k23 : Kd S23 := Kd.iso (Kd.pair (Kd.int .i64) (Kd.pair (Kd.int .i64) (Kd.pair (Kd.int .i64) (Kd.int .i64)))) (fun x : S23 => (x.f0, x.f1, x.f2, x.f3))
theorem k23_open {w : World} {x : S23} {cs : List Value} (h : k23.K w x cs) : cs = [.int .i64 x.f0, .int .i64 x.f1, .int .i64 x.f2, .int .i64 x.f3] := by
  obtain ⟨_, _, rfl, rfl, ⟨_, _, rfl, rfl, ⟨_, _, rfl, rfl, rfl⟩⟩⟩ := h
  exact rfl
theorem k23_openM {w : World} {base : Nat} {ok : Nat → Prop} {x : S23} {cs : List Value} (h : k23.M w base ok x cs) : cs = [.int .i64 x.f0, .int .i64 x.f1, .int .i64 x.f2, .int .i64 x.f3] := by
  obtain ⟨_, _, rfl, rfl, ⟨_, _, rfl, rfl, ⟨_, _, rfl, rfl, rfl⟩⟩⟩ := h
  exact rfl
theorem k23_mk (w : World) (x : S23)  : k23.K w x [.int .i64 x.f0, .int .i64 x.f1, .int .i64 x.f2, .int .i64 x.f3] := ⟨[.int .i64 x.f0], [.int .i64 x.f1, .int .i64 x.f2, .int .i64 x.f3], rfl, rfl, ⟨[.int .i64 x.f1], [.int .i64 x.f2, .int .i64 x.f3], rfl, rfl, ⟨[.int .i64 x.f2], [.int .i64 x.f3], rfl, rfl, rfl⟩⟩⟩
theorem k23_mkM (w : World) (base : Nat) (ok : Nat → Prop) (x : S23)  : k23.M w base ok x [.int .i64 x.f0, .int .i64 x.f1, .int .i64 x.f2, .int .i64 x.f3] := ⟨[.int .i64 x.f0], [.int .i64 x.f1, .int .i64 x.f2, .int .i64 x.f3], rfl, rfl, ⟨[.int .i64 x.f1], [.int .i64 x.f2, .int .i64 x.f3], rfl, rfl, ⟨[.int .i64 x.f2], [.int .i64 x.f3], rfl, rfl, rfl⟩⟩⟩
def rd_T23 (xs : List S23) (i : Int) : S23 := xs.getD i.toNat z23
theorem at_T23 {w : World} {A : Option Addr} {n : Nat} {xs : List S23} (h : Kd.C k23 w A n xs) (i : Int) (h0 : 0 ≤ i) (h1 : i < n) : ∃ ad , A = some ad ∧ w.cell? (ad.add (i.toNat * 4)) = some (.int .i64 (rd_T23 xs i).f0) ∧ w.cell? ⟨(ad.add (i.toNat * 4)).block, (ad.add (i.toNat * 4)).off + 1, none⟩ = some (.int .i64 (rd_T23 xs i).f1) ∧ w.cell? ⟨(ad.add (i.toNat * 4)).block, (ad.add (i.toNat * 4)).off + 2, none⟩ = some (.int .i64 (rd_T23 xs i).f2) ∧ w.cell? ⟨(ad.add (i.toNat * 4)).block, (ad.add (i.toNat * 4)).off + 3, none⟩ = some (.int .i64 (rd_T23 xs i).f3) := by
  obtain ⟨ad, c, e, _, hK, hc0⟩ := Kd.C_get h z23 i h0 h1
  have hc : ∀ j u, c[j]? = some u → w.cell? (ad.add (i.toNat * 4 + j)) = some u := hc0
  obtain rfl := k23_open hK
  exact ⟨ad, e, hc 0 _ rfl, by rw [← add_field _ _ 1 (by omega)]; exact hc 1 _ rfl, by rw [← add_field _ _ 2 (by omega)]; exact hc 2 _ rfl, by rw [← add_field _ _ 3 (by omega)]; exact hc 3 _ rfl⟩

end P
/-- loop.example/g01020/laws.Relay: what holds of its fields. -/
def Wf23 (x : P.S23) : Prop := ((Lit.int .i64 x.f0).wf = true) ∧ ((Lit.int .i64 x.f1).wf = true) ∧ ((Lit.int .i64 x.f2).wf = true) ∧ ((Lit.int .i64 x.f3).wf = true)
theorem opn23 : Opn Try.prog 23 P.k23 Wf23 := opn_struct (f := (fun x : P.S23 => (x.f0, x.f1, x.f2, x.f3))) (fun a => (⟨a.1, a.2.1, a.2.2.1, a.2.2.2⟩ : P.S23)) (fun _ => rfl) Try.underlying23 (by kernel_rfl) (opnFs_cons _ rfl rfl (by kernel_rfl) (opn_int Try.underlying3) (opnFs_cons _ rfl rfl (by kernel_rfl) (opn_int Try.underlying3) (opnFs_cons _ rfl rfl (by kernel_rfl) (opn_int Try.underlying3) (opnFs_last _ rfl rfl (by kernel_rfl) (opn_int Try.underlying3)))))
/-- loop.example/g01020/laws.Point: what holds of its fields. -/
def Wf77 (x : P.S77) : Prop := ((Lit.int .i64 x.f0).wf = true) ∧ ((Lit.int .i64 x.f1).wf = true)
theorem opn77 : Opn Try.prog 77 P.k77 Wf77 := opn_struct (f := (fun x : P.S77 => (x.f0, x.f1))) (fun a => (⟨a.1, a.2⟩ : P.S77)) (fun _ => rfl) Try.underlying77 (by kernel_rfl) (opnFs_cons _ rfl rfl (by kernel_rfl) (opn_int Try.underlying3) (opnFs_last _ rfl rfl (by kernel_rfl) (opn_int Try.underlying3)))
end Go.Proofs.Ytjffblojognlbaa

/- The pure statement of FnExactPumpPlaces. -/
namespace Go.Proofs.Ytjffblojognlbaa
open Go.RowKit Go.Proofs.YtjffblojognlbaaW.PrintWords
/-- What is left of the statement: numbers and lists alone. -/
def FnExactPumpPlaces.Said : Prop := ∀ (l0 : List P.S77) (x1 : P.S23), (l0.length ≤ maxLen ∧ ∀ y ∈ l0, Wf77 y) → Wf23 x1 → ∃ k, P.laws_FnExactPumpPlaces.f k l0 x1.f0 x1.f1 x1.f2 x1.f3 = some true
end Go.Proofs.Ytjffblojognlbaa

/- Plain lemmas on rounds, wraps, loops and lists, with no program in sight. -/
namespace Go.Proofs.Ytjffblojognlbaa
open Go.RowKit Go.Proofs.YtjffblojognlbaaW.PrintWords
set_option linter.unusedSimpArgs false
set_option linter.unusedVariables false

theorem bound_i64 {a : Int} (h : (Lit.int .i64 a).wf = true) : -9223372036854775808 ≤ a ∧ a ≤ 9223372036854775807 := by
  simp only [Lit.wf, IntKind.min, IntKind.max, IntKind.signed, IntKind.bits, Bool.and_eq_true, decide_eq_true_eq, if_true] at h
  omega
theorem w64 {x : Int} (h0 : -9223372036854775808 ≤ x) (h1 : x ≤ 9223372036854775807) : wrap64 x = x := by
  unfold wrap64
  omega
theorem w64_succ {i : Nat} (h : i < 4611686018427387904) : wrap64 ((i : Int) + 1) = ((i + 1 : Nat) : Int) := by
  unfold wrap64
  omega
theorem some_dec {p q : Prop} [Decidable p] [Decidable q] (h : p ↔ q) : some (decide p) = some (decide q) := by simp [h]
theorem some_t {q : Prop} [Decidable q] (h : q) : some true = some (decide q) := by simp [h]
theorem some_f {q : Prop} [Decidable q] (h : ¬ q) : some false = some (decide q) := by simp [h]
theorem bind_if {α : Type} {c : Prop} [Decidable c] (f : Bool → Option α) : (some (decide c)).bind f = if c then f true else f false := by
  by_cases h : c <;> simp [h]
theorem bind_ifb {α : Type} (c : Bool) (f : Bool → Option α) : (some c).bind f = if c = true then f true else f false := by
  cases c <;> simp

/-! ### A loop with rounds: what it comes to -/
section
variable {σ ρ : Type}
def runFrom (step : Nat → σ → σ ⊕ ρ) (fin : σ → ρ) : Nat → Nat → σ → ρ
  | 0, _, s => fin s
  | d + 1, i, s => match step i s with
    | .inl s' => runFrom step fin d (i + 1) s'
    | .inr r => r
theorem run_loop {F : Nat → σ → Int → Option ρ} {n : Nat} (step : Nat → σ → σ ⊕ ρ) (fin : σ → ρ) (Inv : Nat → σ → Prop)
    (hs : ∀ k i s, i < n → Inv i s → F (k + 1) s (i : Int) = match step i s with | .inl s' => F k s' ((i + 1 : Nat) : Int) | .inr r => some r)
    (hi : ∀ i s s', i < n → Inv i s → step i s = .inl s' → Inv (i + 1) s')
    (he : ∀ k s, Inv n s → F (k + 1) s (n : Int) = some (fin s)) :
    ∀ (d i : Nat) (s : σ) (k : Nat), i + d = n → d < k → Inv i s → F k s (i : Int) = some (runFrom step fin d i s) := by
  intro d
  induction d with
  | zero =>
    intro i s k h hk hI
    obtain ⟨k, rfl⟩ : ∃ m, k = m + 1 := ⟨k - 1, by omega⟩
    obtain rfl : i = n := by omega
    exact he k s hI
  | succ d ih =>
    intro i s k h hk hI
    obtain ⟨k, rfl⟩ : ∃ m, k = m + 1 := ⟨k - 1, by omega⟩
    rw [hs k i s (by omega) hI]
    simp only [runFrom]
    cases hst : step i s with
    | inl s' => exact ih (i + 1) s' k (by omega) (by omega) (hi i s s' (by omega) hI hst)
    | inr r => rfl
end
/-- All from i on, d of them. -/
def allFrom (p : Nat → Bool) : Nat → Nat → Bool
  | 0, _ => true
  | d + 1, i => p i && allFrom p d (i + 1)
theorem allFrom_iff (p : Nat → Bool) : ∀ (d i : Nat), allFrom p d i = true ↔ ∀ j, i ≤ j → j < i + d → p j = true
  | 0, i => by simp [allFrom]; intro j h1 h2; omega
  | d + 1, i => by
    simp only [allFrom, Bool.and_eq_true, allFrom_iff p d (i + 1)]
    constructor
    · intro ⟨h, hh⟩ j h1 h2
      by_cases e : j = i
      · rw [e]; exact h
      · exact hh j (by omega) (by omega)
    · intro h
      exact ⟨h i (Nat.le_refl _) (by omega), fun j h1 h2 => h j (by omega) (by omega)⟩
theorem allFrom_congr {p q : Nat → Bool} : ∀ (d i : Nat), (∀ j, i ≤ j → j < i + d → p j = q j) → allFrom p d i = allFrom q d i
  | 0, _, _ => rfl
  | d + 1, i, h => by simp only [allFrom]; rw [h i (Nat.le_refl _) (by omega), allFrom_congr d (i + 1) (fun j h1 h2 => h j (by omega) (by omega))]
/-- A loop that goes on while p holds, else says false. -/
theorem all_loop {F : Nat → Int → Option Bool} {n : Nat} (p : Nat → Bool)
    (hs : ∀ k i, i < n → (∀ j, j < i → p j = true) → F (k + 1) (i : Int) = if p i = true then F k ((i + 1 : Nat) : Int) else some false)
    (he : ∀ k, F (k + 1) (n : Int) = some true) :
    ∀ (d i : Nat) (k : Nat), i + d = n → d < k → (∀ j, j < i → p j = true) → F k (i : Int) = some (allFrom p d i) := by
  intro d
  induction d with
  | zero =>
    intro i k h hk hI
    obtain ⟨k, rfl⟩ : ∃ m, k = m + 1 := ⟨k - 1, by omega⟩
    obtain rfl : i = n := by omega
    exact he k
  | succ d ih =>
    intro i k h hk hI
    obtain ⟨k, rfl⟩ : ∃ m, k = m + 1 := ⟨k - 1, by omega⟩
    rw [hs k i (by omega) hI]
    simp only [allFrom]
    by_cases hp : p i = true
    · rw [if_pos hp, hp, Bool.true_and]
      refine ih (i + 1) k (by omega) (by omega) (fun j hj => ?_)
      by_cases e : j = i
      · rw [e]; exact hp
      · exact hI j (by omega)
    · rw [if_neg hp]
      simp [Bool.eq_false_iff.2 hp]

/-! ### Lists -/
theorem fill_set {α : Type} (A : List α) (d : Nat) (z v : α) : (A ++ List.replicate (d + 1) z).set A.length v = (A ++ [v]) ++ List.replicate d z := by
  rw [List.set_append_right _ _ (by omega), Nat.sub_self, List.replicate_succ, List.set_cons_zero, List.append_assoc]
  rfl
theorem take_map_succ {α β : Type} (f : α → β) (l : List α) (z : α) (i : Nat) (h : i < l.length) : (l.take (i + 1)).map f = (l.take i).map f ++ [f (l.getD i z)] := by
  rw [List.take_succ_eq_append_getElem h, List.map_append]
  simp [List.getD_eq_getElem?_getD, List.getElem?_eq_getElem h]
theorem set_split {α : Type} (l : List α) (i : Nat) (h : i < l.length) (v : α) : l.set i v = l.take i ++ v :: l.drop (i + 1) := List.set_eq_take_append_cons_drop .. |>.trans (by rw [if_pos h])

/-- A loop that goes on while p holds, else says false; behind the last one it says b. -/
theorem all_loop_end {F : Nat → Int → Option Bool} {n : Nat} (p : Nat → Bool) (b : Bool) (K : Nat)
    (hs : ∀ k i, K ≤ k → i < n → (∀ j, j < i → p j = true) → F (k + 1) (i : Int) = if p i = true then F k ((i + 1 : Nat) : Int) else some false)
    (he : ∀ k, K ≤ k → (∀ j, j < n → p j = true) → F (k + 1) (n : Int) = some b) :
    ∀ (d i : Nat) (k : Nat), i + d = n → K + d < k → (∀ j, j < i → p j = true) → F k (i : Int) = some (allFrom p d i && b) := by
  intro d
  induction d with
  | zero =>
    intro i k h hk hI
    obtain ⟨k, rfl⟩ : ∃ m, k = m + 1 := ⟨k - 1, by omega⟩
    obtain rfl : i = n := by omega
    rw [he k (by omega) hI]
    simp [allFrom]
  | succ d ih =>
    intro i k h hk hI
    obtain ⟨k, rfl⟩ : ∃ m, k = m + 1 := ⟨k - 1, by omega⟩
    rw [hs k i (by omega) (by omega) hI]
    simp only [allFrom]
    by_cases hp : p i = true
    · rw [if_pos hp, hp, Bool.true_and]
      refine ih (i + 1) k (by omega) (by omega) (fun j hj => ?_)
      by_cases e : j = i
      · rw [e]; exact hp
      · exact hI j (by omega)
    · rw [if_neg hp]
      simp [Bool.eq_false_iff.2 hp]
theorem allFrom_true : ∀ d i, allFrom (fun _ => true) d i = true
  | 0, _ => rfl
  | d + 1, i => by simp [allFrom, allFrom_true d]

/-! ### A copy, element by element; marks, and their test -/
theorem copy_loop {α β : Type} (F : Nat → List β → Int → Option (List β)) (l : List α) (za : α) (conv : α → β) (z : β) (K : Nat)
    (hs : ∀ k i d (B : List β), K ≤ k → i + d + 1 = l.length → B.length = i → F (k + 1) (B ++ List.replicate (d + 1) z) (i : Int) = F k ((B ++ [conv (l.getD i za)]) ++ List.replicate d z) ((i + 1 : Nat) : Int))
    (he : ∀ k (B : List β), K ≤ k → B.length = l.length → F (k + 1) B (l.length : Int) = some B) :
    ∀ (d i k : Nat), i + d = l.length → K + d < k → F k ((l.take i).map conv ++ List.replicate d z) (i : Int) = some (l.map conv) := by
  intro d
  induction d with
  | zero =>
    intro i k h hk
    obtain ⟨k, rfl⟩ : ∃ m, k = m + 1 := ⟨k - 1, by omega⟩
    obtain rfl : i = l.length := by omega
    rw [List.take_length, List.replicate_zero, List.append_nil]
    exact he k _ (by omega) (by simp)
  | succ d ih =>
    intro i k h hk
    obtain ⟨k, rfl⟩ : ∃ m, k = m + 1 := ⟨k - 1, by omega⟩
    rw [hs k i d _ (by omega) (by omega) (by simp; omega), ← take_map_succ conv l za i (by omega)]
    exact ih (i + 1) k (by omega) (by omega)
section
variable {α : Type}
def marked (mk : Int → α → α) (w : Int) : Int → List α → List α
  | _, [] => []
  | m, x :: l => mk m x :: marked mk w (m + w) l
theorem marked_length (mk : Int → α → α) (w : Int) : ∀ (l : List α) (m : Int), (marked mk w m l).length = l.length
  | [], _ => rfl
  | x :: l, m => by show (marked mk w (m + w) l).length + 1 = l.length + 1; rw [marked_length mk w l]
theorem mark_loop (F : Nat → List α → Int → Int → Option (Int × List α)) (mk : Int → α → α) (w : Nat) (K : Nat)
    (hs : ∀ k (A : List α) (x : α) (l : List α) (m : Int), K ≤ k → 0 ≤ m → m + w ≤ 1000000000 → A.length + l.length < 1048577 → F (k + 1) (A ++ x :: l) m (A.length : Int) = F k (A ++ mk m x :: l) (m + w) ((A.length + 1 : Nat) : Int))
    (he : ∀ k (A : List α) (m : Int), F (k + 1) A m (A.length : Int) = some (m, A)) :
    ∀ (l A : List α) (m : Int) (k : Nat), A.length + l.length ≤ 1048576 → 0 ≤ m → m + w * l.length ≤ 1000000000 → K + l.length < k → F k (A ++ l) m (A.length : Int) = some (m + w * l.length, A ++ marked mk w m l) := by
  intro l
  induction l with
  | nil =>
    intro A m k h h0 h1 hk
    obtain ⟨k, rfl⟩ : ∃ m, k = m + 1 := ⟨k - 1, by omega⟩
    rw [List.append_nil, he]
    simp [marked]
  | cons x l ih =>
    intro A m k h h0 h1 hk
    simp only [List.length_cons] at h h1 hk
    have hw : (w : Int) * ((l.length + 1 : Nat) : Int) = w * (l.length : Int) + w := by rw [Int.natCast_add, Int.mul_add]; simp
    have hn : 0 ≤ (w : Int) * (l.length : Int) := Int.mul_nonneg (by omega) (by omega)
    obtain ⟨k, rfl⟩ : ∃ m, k = m + 1 := ⟨k - 1, by omega⟩
    rw [hs k A x l m (by omega) h0 (by omega) (by omega)]
    have := ih (A ++ [mk m x]) (m + w) k (by simp; omega) (by omega) (by omega) (by omega)
    rw [List.length_append, List.length_singleton, List.append_assoc, List.singleton_append] at this
    rw [this, List.append_assoc, List.singleton_append, List.length_cons, hw, Int.add_assoc, Int.add_comm (w : Int)]
    rfl
theorem held_loop (F : Nat → List α → Int → Int → Option Int) (mk : Int → α → α) (w : Nat) (K : Nat)
    (hs : ∀ k (A : List α) (x : α) (l : List α) (m : Int), K ≤ k → 0 ≤ m → m + w ≤ 1000000000 → A.length + l.length < 1048577 → F (k + 1) (A ++ mk m x :: l) m (A.length : Int) = F k (A ++ mk m x :: l) (m + w) ((A.length + 1 : Nat) : Int))
    (he : ∀ k (A : List α) (m : Int), F (k + 1) A m (A.length : Int) = some m) :
    ∀ (l A : List α) (m : Int) (k : Nat), A.length + l.length ≤ 1048576 → 0 ≤ m → m + w * l.length ≤ 1000000000 → K + l.length < k → F k (A ++ marked mk w m l) m (A.length : Int) = some (m + w * l.length) := by
  intro l
  induction l with
  | nil =>
    intro A m k h h0 h1 hk
    obtain ⟨k, rfl⟩ : ∃ m, k = m + 1 := ⟨k - 1, by omega⟩
    have hm : marked mk w m [] = [] := rfl
    rw [hm, List.append_nil, he]
    simp
  | cons x l ih =>
    intro A m k h h0 h1 hk
    simp only [List.length_cons] at h h1 hk
    have hw : (w : Int) * ((l.length + 1 : Nat) : Int) = w * (l.length : Int) + w := by rw [Int.natCast_add, Int.mul_add]; simp
    have hn : 0 ≤ (w : Int) * (l.length : Int) := Int.mul_nonneg (by omega) (by omega)
    obtain ⟨k, rfl⟩ : ∃ m, k = m + 1 := ⟨k - 1, by omega⟩
    have hm : marked mk w m (x :: l) = mk m x :: marked mk w (m + w) l := rfl
    rw [hm, hs k A x _ m (by omega) h0 (by omega) (by rw [marked_length]; omega)]
    have := ih (A ++ [mk m x]) (m + w) k (by simp; omega) (by omega) (by omega) (by omega)
    rw [List.length_append, List.length_singleton, List.append_assoc, List.singleton_append] at this
    rw [this, List.length_cons, hw, Int.add_assoc, Int.add_comm (w : Int)]
end
theorem set_mid {α : Type} (A : List α) (v u : α) (l : List α) : (A ++ v :: l).set A.length u = A ++ u :: l := by
  rw [List.set_append_right _ _ (by omega), Nat.sub_self, List.set_cons_zero]
theorem getD_mid {α : Type} (A : List α) (v : α) (l : List α) (z : α) : (A ++ v :: l).getD A.length z = v := by
  simp [List.getD_eq_getElem?_getD]
end Go.Proofs.Ytjffblojognlbaa

/- Plain lemmas on the relay functions of both sides. -/
namespace Go.Proofs.Ytjffblojognlbaa
open Go.RowKit Go.Proofs.YtjffblojognlbaaW.PrintWords
set_option linter.unusedSimpArgs false
set_option linter.unusedVariables false

theorem inside_eq (a b c : Int) : P.impl_inside.f a b c = some (decide (b ≤ a ∧ a ≤ c)) := by
  unfold P.impl_inside.f
  split
  · exact some_dec (by omega)
  · exact some_f (by omega)
theorem l1In_eq (a b c : Int) : P.spec_l1In.f a b c = some (decide (b ≤ a ∧ a ≤ c)) := by
  unfold P.spec_l1In.f
  split
  · exact some_dec (by omega)
  · exact some_f (by omega)
def relayOk (a b c d : Int) : Bool := decide (0 ≤ a ∧ a ≤ 3 ∧ 1 ≤ b ∧ b ≤ 3000 ∧ 100 ≤ c ∧ c ≤ 2000 ∧ 10 ≤ d ∧ d ≤ 500 ∧ d < c)
theorem ryGood_eq (a b c d : Int) : P.spec_ryGood.f a b c d = some (relayOk a b c d) := by
  simp only [P.spec_ryGood.f, l1In_eq, bind_if, relayOk, if_true, if_false, Bool.false_eq_true]
  repeat' split
  all_goals first | exact some_dec (by omega) | exact some_f (by omega)
theorem isRelay_eq (a b c d : Int) (hc : -9223372036854775808 ≤ c ∧ c ≤ 9223372036854775807) : P.impl_isRelay.f a b c d = some (relayOk a b c d) := by
  simp only [P.impl_isRelay.f, inside_eq, bind_if, relayOk, mn, if_true, if_false, Bool.false_eq_true, wrap64]
  repeat' split
  all_goals first | exact some_t (by omega) | exact some_f (by omega)

theorem toRelay_eq (a b c d : Int) : P.laws_toRelay.f a b c d = some (a, b, c, d) := rfl

end Go.Proofs.Ytjffblojognlbaa

/- Slices of points: the copy of an argument, the test of equality, the marks and their test. -/
namespace Go.Proofs.Ytjffblojognlbaa
open Go.RowKit Go.Proofs.YtjffblojognlbaaW.PrintWords
set_option linter.unusedSimpArgs false
set_option linter.unusedVariables false
abbrev Pt := P.S71
abbrev LPt := P.S77
def toPt (x : LPt) : Pt := ⟨x.f0, x.f1⟩
theorem toPoint_eq (a b : Int) : P.laws_toPoint.f a b = some (a, b) := rfl
theorem toPointS_l0 (l : List LPt) (hl : l.length ≤ 1048576) : ∀ (d i k : Nat), i + d = l.length → d < k → P.laws_toPointS.l0 k l ((l.take i).map toPt ++ List.replicate d P.z71) i = some (l.map toPt) := by
  intro d
  induction d with
  | zero =>
    intro i k h hk
    obtain ⟨k, rfl⟩ : ∃ m, k = m + 1 := ⟨k - 1, by omega⟩
    simp only [P.laws_toPointS.l0]
    rw [if_neg (by omega), List.take_of_length_le (by omega)]
    simp
  | succ d ih =>
    intro i k h hk
    obtain ⟨k, rfl⟩ : ∃ m, k = m + 1 := ⟨k - 1, by omega⟩
    have hA : ((l.take i).map toPt).length = i := by simp; omega
    have hf := fill_set ((l.take i).map toPt) d P.z71 (toPt (l.getD i P.z77))
    rw [hA] at hf
    simp only [P.laws_toPointS.l0]
    rw [if_pos (by omega), if_pos (by omega)]
    simp only [toPoint_eq, Option.bind_some, P.rd_T77, Int.toNat_natCast]
    rw [if_pos (by simp; omega), w64_succ (by omega)]
    have := ih (i + 1) k (by omega) (by omega)
    rw [take_map_succ toPt l P.z77 i (by omega), ← hf] at this
    exact this
theorem toPointS_eq (l : List LPt) (hl : l.length ≤ 1048576) (k : Nat) (hk : l.length < k) : P.laws_toPointS.f k l = some (l.map toPt) := by
  simp only [P.laws_toPointS.f]
  rw [if_pos (by omega), if_pos (by omega)]
  exact toPointS_l0 l hl l.length 0 k (by omega) hk
theorem eqPoint_refl (a b : Int) : P.laws_eqPoint.f a b a b = some true := by simp [P.laws_eqPoint.f]
theorem eqPointS_refl (l : List Pt) (hl : l.length ≤ 1048576) (k : Nat) (hk : l.length < k) : P.laws_eqPointS.f k l l = some true := by
  simp only [P.laws_eqPointS.f, if_true]
  have key : ∀ (d i k : Nat), i + d = l.length → d < k → P.laws_eqPointS.l0 k l l i = some true := by
    intro d
    induction d with
    | zero =>
      intro i k h hk
      obtain ⟨k, rfl⟩ : ∃ m, k = m + 1 := ⟨k - 1, by omega⟩
      simp only [P.laws_eqPointS.l0]
      rw [if_neg (by omega)]
    | succ d ih =>
      intro i k h hk
      obtain ⟨k, rfl⟩ : ∃ m, k = m + 1 := ⟨k - 1, by omega⟩
      simp only [P.laws_eqPointS.l0]
      rw [if_pos (by omega), if_pos (by omega), if_pos (by omega)]
      simp only [eqPoint_refl, Option.bind_some, if_true]
      rw [w64_succ (by omega)]
      exact ih (i + 1) k (by omega) (by omega)
  exact key l.length 0 k (by omega) hk
theorem szPointS_eq (l : List LPt) (hl : l.length ≤ maxLen) : P.laws_szPointS.f l 1048576 = some (if l.length ≤ 1048576 then 1048576 - (l.length : Int) else -1) := by
  unfold maxLen at hl
  simp only [P.laws_szPointS.f]
  rw [w64 (by omega) (by omega)]
  by_cases h : l.length ≤ 1048576
  · rw [if_neg (by omega), if_pos h]
  · rw [if_pos (by omega), if_neg h]
/-- The list with its marks, from m on. -/
def markedPt : Int → List Pt → List Pt
  | _, [] => []
  | m, _ :: l => ⟨m, m + 1⟩ :: markedPt (m + 2) l
theorem markedPt_length : ∀ (l : List Pt) (m : Int), (markedPt m l).length = l.length
  | [], _ => rfl
  | _ :: l, m => by simp [markedPt, markedPt_length l]
theorem markPointS_l0 : ∀ (l A : List Pt) (m : Int) (k : Nat), A.length + l.length ≤ 1048576 → 0 ≤ m → m + 2 * l.length ≤ 1000000000 → l.length < k → P.laws_markPointS.l0 k (A ++ l) m A.length = some (m + 2 * l.length, A ++ markedPt m l) := by
  intro l
  induction l with
  | nil =>
    intro A m k h h0 h1 hk
    obtain ⟨k, rfl⟩ : ∃ m, k = m + 1 := ⟨k - 1, by omega⟩
    simp only [P.laws_markPointS.l0]
    rw [if_neg (by simp)]
    simp [markedPt]
  | cons x l ih =>
    intro A m k h h0 h1 hk
    simp only [List.length_cons] at h h1 hk
    obtain ⟨k, rfl⟩ : ∃ m, k = m + 1 := ⟨k - 1, by omega⟩
    simp only [P.laws_markPointS.l0]
    rw [if_pos (by simp; omega), if_pos (by omega)]
    simp only [Option.bind_some, Int.toNat_natCast, P.rd_T71]
    have hset : ∀ (v u : Pt), (A ++ v :: l).set A.length u = (A ++ [u]) ++ l := by
      intro v u
      rw [List.set_append_right _ _ (by omega), Nat.sub_self, List.set_cons_zero, List.append_assoc]
      rfl
    have hget : ∀ (v : Pt), (A ++ v :: l).getD A.length P.z71 = v := by
      intro v
      simp [List.getD_eq_getElem?_getD]
    rw [hset x, List.append_assoc, List.singleton_append, hset]
    simp only [hget]
    rw [w64 (by omega) (by omega), w64 (by omega) (by omega), w64_succ (by omega)]
    have := ih (A ++ [⟨m, m + 1⟩]) (m + 1 + 1) k (by simp; omega) (by omega) (by omega) (by omega)
    rw [List.length_append, List.length_singleton] at this
    rw [this, List.append_assoc, List.singleton_append, List.length_cons]
    simp only [markedPt]
    rw [show m + 1 + 1 + 2 * (l.length : Int) = m + 2 * ((l.length + 1 : Nat) : Int) by omega, show m + 1 + 1 = m + 2 by omega]
theorem heldPointS_l0 : ∀ (l A : List Pt) (m : Int) (k : Nat), A.length + l.length ≤ 1048576 → 0 ≤ m → m + 2 * l.length ≤ 1000000000 → l.length < k → P.laws_heldPointS.l0 k (A ++ markedPt m l) m A.length = some (m + 2 * l.length) := by
  intro l
  induction l with
  | nil =>
    intro A m k h h0 h1 hk
    obtain ⟨k, rfl⟩ : ∃ m, k = m + 1 := ⟨k - 1, by omega⟩
    have hm : markedPt m [] = [] := rfl
    rw [hm]
    simp only [P.laws_heldPointS.l0]
    rw [if_neg (by simp)]
    simp
  | cons x l ih =>
    intro A m k h h0 h1 hk
    simp only [List.length_cons] at h h1 hk
    obtain ⟨k, rfl⟩ : ∃ m, k = m + 1 := ⟨k - 1, by omega⟩
    have hm : markedPt m (x :: l) = ⟨m, m + 1⟩ :: markedPt (m + 2) l := rfl
    rw [hm]
    simp only [P.laws_heldPointS.l0]
    have hget : ∀ (v : Pt) (B : List Pt), (A ++ v :: B).getD A.length P.z71 = v := by
      intro v B
      simp [List.getD_eq_getElem?_getD]
    rw [if_pos (by simp; omega), if_pos (by omega)]
    simp only [Int.toNat_natCast, P.rd_T71, hget]
    rw [w64 (by omega) (by omega), if_pos trivial, if_pos rfl, w64 (by omega) (by omega), w64_succ (by omega)]
    have := ih (A ++ [⟨m, m + 1⟩]) (m + 2) k (by simp; omega) (by omega) (by omega) (by omega)
    rw [List.length_append, List.length_singleton, List.append_assoc, List.singleton_append] at this
    rw [show m + 1 + 1 = m + 2 by omega, this, List.length_cons, show m + 2 + 2 * (l.length : Int) = m + 2 * ((l.length + 1 : Nat) : Int) by omega]
theorem markPointS_eq (l : List Pt) (hl : l.length ≤ 1048576) (k : Nat) (hk : l.length < k) : P.laws_markPointS.f k l 1 = some (1 + 2 * (l.length : Int), markedPt 1 l) :=
  markPointS_l0 l [] 1 k (by simpa using hl) (by omega) (by omega) hk
theorem heldPointS_eq (l : List Pt) (hl : l.length ≤ 1048576) (k : Nat) (hk : l.length < k) : P.laws_heldPointS.f k (markedPt 1 l) 1 = some (1 + 2 * (l.length : Int)) :=
  heldPointS_l0 l [] 1 k (by simpa using hl) (by omega) (by omega) hk
end Go.Proofs.Ytjffblojognlbaa

/- Both sides say the same of a profile; and what a profile is. Conditions: none. -/
namespace Go.Proofs.Ytjffblojognlbaa
open Go.RowKit Go.Proofs.YtjffblojognlbaaW.PrintWords
set_option linter.unusedSimpArgs false
set_option linter.unusedVariables false
/-- Point number j. -/
def pt (l : List Pt) (j : Nat) : Pt := l.getD j P.z71
theorem rd_pt (l : List Pt) (j : Nat) : P.rd_T71 l (j : Int) = pt l j := by simp [P.rd_T71, pt]
def ptOk (l : List Pt) (j : Nat) : Bool := decide ((0 ≤ (pt l j).f0 ∧ (pt l j).f0 ≤ 50000) ∧ (-2000 ≤ (pt l j).f1 ∧ (pt l j).f1 ≤ 2000) ∧ (0 < j → 1 ≤ (pt l j).f0 - (pt l (j - 1)).f0 ∧ (pt l j).f0 - (pt l (j - 1)).f0 ≤ 5000))
/-- A profile. -/
def profB (l : List Pt) : Bool := decide (2 ≤ l.length ∧ l.length ≤ 40 ∧ (pt l 0).f0 = 0) && allFrom (ptOk l) l.length 0
/-- Its numbers are those of int. -/
def PtsIn (l : List Pt) : Prop := ∀ j, j < l.length → (-9223372036854775808 ≤ (pt l j).f0 ∧ (pt l j).f0 ≤ 9223372036854775807) ∧ (-9223372036854775808 ≤ (pt l j).f1 ∧ (pt l j).f1 ≤ 9223372036854775807)
theorem w64_pred {i : Nat} (h : 0 < i) (hh : i < 4611686018427387904) : wrap64 ((i : Int) - 1) = ((i - 1 : Nat) : Int) := by
  unfold wrap64
  omega

theorem ryProfile_l0 (l : List Pt) (hl : l.length ≤ 40) : ∀ (d i k : Nat), i + d = l.length → d < k → (∀ j, j < i → ptOk l j = true) → P.spec_ryProfile.l0 k l l (l.length : Int) i = some (allFrom (ptOk l) d i) := by
  refine all_loop (F := fun k i => P.spec_ryProfile.l0 k l l (l.length : Int) i) (n := l.length) (ptOk l) (fun k i hi hj => ?_) (fun k => ?_)
  · simp only [P.spec_ryProfile.l0]
    rw [if_pos (by omega), if_pos (by omega), if_pos (by omega)]
    simp only [l1In_eq, bind_if, rd_pt, if_true, if_false, Bool.false_eq_true]
    rw [w64_succ (by omega)]
    by_cases hp : ptOk l i = true
    · rw [if_pos hp]
      simp only [ptOk, decide_eq_true_eq] at hp
      obtain ⟨h1, h2, h4⟩ := hp
      rw [if_pos h1, if_pos h2]
      by_cases h3 : 0 < i
      · have hq := hj (i - 1) (by omega)
        simp only [ptOk, decide_eq_true_eq] at hq
        rw [if_pos (by omega), w64_pred h3 (by omega), if_pos (by omega), if_pos (by omega), rd_pt, w64 (by omega) (by omega), if_pos (h4 h3)]
      · rw [if_neg (by omega)]
    · rw [if_neg hp]
      simp only [ptOk, decide_eq_true_eq] at hp
      by_cases h1 : 0 ≤ (pt l i).f0 ∧ (pt l i).f0 ≤ 50000
      · rw [if_pos h1]
        by_cases h2 : -2000 ≤ (pt l i).f1 ∧ (pt l i).f1 ≤ 2000
        · rw [if_pos h2]
          have h3 : 0 < i := Nat.pos_of_ne_zero (fun h => hp ⟨h1, h2, fun h' => by omega⟩)
          have hq := hj (i - 1) (by omega)
          simp only [ptOk, decide_eq_true_eq] at hq
          rw [if_pos (by omega), w64_pred h3 (by omega), if_pos (by omega), if_pos (by omega), rd_pt, w64 (by omega) (by omega), if_neg (fun h => hp ⟨h1, h2, fun _ => h⟩)]
        · rw [if_neg h2]
      · rw [if_neg h1]
  · simp only [P.spec_ryProfile.l0]
    rw [if_neg (by omega)]
theorem ryProfile_eq (l : List Pt) (k : Nat) (hk : 50 < k) : P.spec_ryProfile.f k l = some (profB l) := by
  obtain ⟨k, rfl⟩ : ∃ m, k = m + 1 := ⟨k - 1, by omega⟩
  simp only [P.spec_ryProfile.f, l1In_eq, bind_if]
  by_cases h1 : 2 ≤ (l.length : Int) ∧ (l.length : Int) ≤ 40
  · rw [if_pos h1]
    simp only [if_true]
    rw [if_pos (by omega)]
    have h0 : P.rd_T71 l 0 = pt l 0 := rd_pt l 0
    rw [h0]
    simp only [P.spec_ryProfile.j0]
    by_cases h2 : (pt l 0).f0 = 0
    · rw [if_neg (by simp [h2])]
      have := ryProfile_l0 l (by omega) l.length 0 k (by omega) (by omega) (fun j hj => by omega)
      rw [show ((0 : Nat) : Int) = 0 from rfl] at this
      rw [this, profB, decide_eq_true (by omega), Bool.true_and]
    · rw [if_pos (by simpa using h2), profB, decide_eq_false (by omega), Bool.false_and]
  · rw [if_neg h1]
    simp only [Bool.false_eq_true, if_false, P.spec_ryProfile.j0, if_true]
    rw [profB, decide_eq_false (by omega), Bool.false_and]

/-- The program's test of one point. -/
def ptOk2 (l : List Pt) (j : Nat) : Bool := decide ((-2000 ≤ (pt l j).f1 ∧ (pt l j).f1 ≤ 2000) ∧ (0 < j → 1 ≤ (pt l j).f0 - (pt l (j - 1)).f0 ∧ (pt l j).f0 - (pt l (j - 1)).f0 ≤ 5000))
theorem along_upto (l : List Pt) (h0 : (pt l 0).f0 = 0) : ∀ i : Nat, (∀ j, j ≤ i → ptOk2 l j = true) → (i : Int) ≤ (pt l i).f0 ∧ (pt l i).f0 ≤ 5000 * i := by
  intro i
  induction i with
  | zero => intro _; simp [h0]
  | succ i ih =>
    intro h
    have := ih (fun j hj => h j (by omega))
    have h1 := h (i + 1) (Nat.le_refl _)
    simp only [ptOk2, decide_eq_true_eq] at h1
    have h2 := h1.2 (by omega)
    rw [Nat.add_sub_cancel] at h2
    omega
theorem isProfile_l0 (l : List Pt) (hin : PtsIn l) (h0 : (pt l 0).f0 = 0) (hl : l.length ≤ 40) : ∀ (d i k : Nat), i + d = l.length → d < k → (∀ j, j < i → ptOk2 l j = true) → P.impl_isProfile.l0 k l l (l.length : Int) i = some (allFrom (ptOk2 l) d i) := by
  refine all_loop (F := fun k i => P.impl_isProfile.l0 k l l (l.length : Int) i) (n := l.length) (ptOk2 l) (fun k i hi hj => ?_) (fun k => ?_)
  · simp only [P.impl_isProfile.l0]
    rw [if_pos (by omega), if_pos (by omega), if_pos (by omega)]
    simp only [inside_eq, bind_if, rd_pt, if_true, if_false, Bool.false_eq_true]
    rw [w64_succ (by omega)]
    have hb := (hin i hi).1
    by_cases hp : ptOk2 l i = true
    · rw [if_pos hp]
      simp only [ptOk2, decide_eq_true_eq] at hp
      obtain ⟨h2, h4⟩ := hp
      rw [if_pos h2]
      by_cases h3 : 0 < i
      · have hq := along_upto l h0 (i - 1) (fun j hj' => hj j (by omega))
        have := h4 h3
        rw [if_pos (by omega), w64_pred h3 (by omega), if_pos (by omega), if_pos (by omega), rd_pt, w64 (by omega) (by omega), if_pos (h4 h3)]
      · rw [if_neg (by omega)]
    · rw [if_neg hp]
      simp only [ptOk2, decide_eq_true_eq] at hp
      by_cases h2 : -2000 ≤ (pt l i).f1 ∧ (pt l i).f1 ≤ 2000
      · rw [if_pos h2]
        have h3 : 0 < i := Nat.pos_of_ne_zero (fun h => hp ⟨h2, fun h' => by omega⟩)
        have hq := along_upto l h0 (i - 1) (fun j hj' => hj j (by omega))
        have h5 : ¬ (1 ≤ (pt l i).f0 - (pt l (i - 1)).f0 ∧ (pt l i).f0 - (pt l (i - 1)).f0 ≤ 5000) := fun h => hp ⟨h2, fun _ => h⟩
        rw [if_pos (by omega), w64_pred h3 (by omega), if_pos (by omega), if_pos (by omega), rd_pt, if_neg (by unfold wrap64; omega)]
      · rw [if_neg h2]
  · simp only [P.impl_isProfile.l0]
    rw [if_neg (by omega)]
theorem both_all (l : List Pt) (h0 : (pt l 0).f0 = 0) (hl : 0 < l.length) (hl2 : l.length ≤ 40) : allFrom (ptOk l) l.length 0 = (decide ((pt l (l.length - 1)).f0 ≤ 50000) && allFrom (ptOk2 l) l.length 0) := by
  rw [Bool.eq_iff_iff, Bool.and_eq_true, allFrom_iff, allFrom_iff, decide_eq_true_eq]
  constructor
  · intro h
    refine ⟨?_, fun j h1 h2 => ?_⟩
    · have := h (l.length - 1) (by omega) (by omega)
      simp only [ptOk, decide_eq_true_eq] at this
      omega
    · have := h j h1 h2
      simp only [ptOk, ptOk2, decide_eq_true_eq] at this ⊢
      exact this.2
  · intro ⟨h1, h⟩ j hj1 hj2
    have hu := along_upto l h0 j (fun q hq => h q (by omega) (by omega))
    have hmono : ∀ d, j + d < l.length → (pt l j).f0 ≤ (pt l (j + d)).f0 := by
      intro d
      induction d with
      | zero => intro _; exact Int.le_refl _
      | succ d ih =>
        intro hd
        have h3 := h (j + (d + 1)) (by omega) (by omega)
        simp only [ptOk2, decide_eq_true_eq] at h3
        have h4 := h3.2 (by omega)
        rw [show j + (d + 1) - 1 = j + d by omega] at h4
        have := ih (by omega)
        omega
    have h5 := hmono (l.length - 1 - j) (by omega)
    rw [show j + (l.length - 1 - j) = l.length - 1 by omega] at h5
    have h6 := h j hj1 hj2
    simp only [ptOk, ptOk2, decide_eq_true_eq] at h6 ⊢
    exact ⟨by omega, h6⟩
theorem isProfile_eq (l : List Pt) (hin : PtsIn l) (k : Nat) (hk : 50 < k) : P.impl_isProfile.f k l = some (profB l) := by
  obtain ⟨k, rfl⟩ : ∃ m, k = m + 1 := ⟨k - 1, by omega⟩
  simp only [P.impl_isProfile.f, inside_eq, bind_if]
  by_cases h1 : 2 ≤ (l.length : Int) ∧ (l.length : Int) ≤ 40
  · rw [if_pos h1]
    simp only [if_true]
    rw [if_pos (by omega)]
    have h0 : P.rd_T71 l 0 = pt l 0 := rd_pt l 0
    rw [h0]
    by_cases h2 : (pt l 0).f0 = 0
    · rw [if_pos h2, w64_pred (by omega) (by omega), if_pos (by omega), if_pos (by omega), rd_pt]
      simp only [P.impl_isProfile.j0]
      have := isProfile_l0 l hin h2 (by omega) l.length 0 k (by omega) (by omega) (fun j hj => by omega)
      rw [show ((0 : Nat) : Int) = 0 from rfl] at this
      have hd : decide (2 ≤ l.length ∧ l.length ≤ 40 ∧ (pt l 0).f0 = 0) = true := decide_eq_true (by omega)
      rw [profB, hd, Bool.true_and, both_all l h2 (by omega) (by omega)]
      by_cases h3 : (pt l (l.length - 1)).f0 ≤ 50000
      · rw [if_neg (by simp; omega), this, decide_eq_true h3, Bool.true_and]
      · rw [if_pos (by simp; omega), decide_eq_false h3, Bool.false_and]
    · rw [if_neg h2]
      simp only [P.impl_isProfile.j0, if_true]
      rw [profB, decide_eq_false (by omega), Bool.false_and]
  · rw [if_neg h1]
    simp only [Bool.false_eq_true, if_false, P.impl_isProfile.j0, if_true]
    rw [profB, decide_eq_false (by omega), Bool.false_and]
/-- The copies of an argument. -/
theorem ptsIn_map (l : List LPt) (h : ∀ x ∈ l, Wf77 x) : PtsIn (l.map toPt) := by
  intro j hj
  have hj' : j < l.length := by simpa using hj
  have hx := h (l[j]) (List.getElem_mem hj')
  have e : pt (l.map toPt) j = toPt l[j] := by simp [pt, List.getD_eq_getElem?_getD, List.getElem?_eq_getElem hj']
  rw [e]
  exact ⟨bound_i64 hx.1, bound_i64 hx.2⟩
/-- What a profile is. -/
theorem profB_spec (l : List Pt) (h : profB l = true) : 2 ≤ l.length ∧ l.length ≤ 40 ∧ (pt l 0).f0 = 0 ∧ ∀ j, j < l.length → (0 ≤ (pt l j).f0 ∧ (pt l j).f0 ≤ 50000) ∧ (-2000 ≤ (pt l j).f1 ∧ (pt l j).f1 ≤ 2000) ∧ (0 < j → 1 ≤ (pt l j).f0 - (pt l (j - 1)).f0 ∧ (pt l j).f0 - (pt l (j - 1)).f0 ≤ 5000) := by
  simp only [profB, Bool.and_eq_true, decide_eq_true_eq, allFrom_iff] at h
  obtain ⟨⟨h1, h2, h3⟩, h4⟩ := h
  refine ⟨h1, h2, h3, fun j hj => ?_⟩
  have := h4 j (by omega) (by omega)
  simp only [ptOk, decide_eq_true_eq] at this
  exact this
end Go.Proofs.Ytjffblojognlbaa

/- Plain lemmas on losses of hoses and flows of branches, with no program in sight. Conditions: none. -/
namespace Go.Proofs.Ytjffblojognlbaa
open Go.RowKit
set_option linter.unusedSimpArgs false
set_option linter.unusedVariables false
theorem mul_bd {a b A B : Int} (ha : 0 ≤ a) (hA : a ≤ A) (hb : 0 ≤ b) (hB : b ≤ B) : 0 ≤ a * b ∧ a * b ≤ A * B :=
  ⟨Int.mul_nonneg ha hb, Int.mul_le_mul hA hB hb (by omega)⟩
def facOf (k : Int) : Int := if k = 0 then 3 else if k = 1 then 20 else if k = 2 then 160 else 5000
def lossOf (k len flow : Int) : Int := (facOf k * (flow * flow * len) + 99999999) / 100000000
theorem facOf_bd (k : Int) : 3 ≤ facOf k ∧ facOf k ≤ 5000 := by
  unfold facOf
  repeat' split
  all_goals omega
theorem lossOf_bd {k len flow : Int} (h0 : 0 ≤ flow) (h1 : flow ≤ 3000) (h2 : 0 ≤ len) (h3 : len ≤ 5000) : 0 ≤ lossOf k len flow ∧ lossOf k len flow ≤ 2250001 := by
  have a := mul_bd h0 h1 h0 h1
  have b := mul_bd a.1 a.2 h2 h3
  have f := facOf_bd k
  have c := mul_bd (by omega : 0 ≤ facOf k) f.2 b.1 b.2
  unfold lossOf
  omega
/-- m is the greatest flow, up to 3000, whose square a million times is at most S. -/
def IsFl (S m : Int) : Prop := 0 ≤ m ∧ m ≤ 3000 ∧ m * m * 1000000 ≤ S ∧ (m < 3000 → S < (m + 1) * (m + 1) * 1000000)
theorem sq_le {a b : Int} (h0 : 0 ≤ a) (h : a ≤ b) : a * a ≤ b * b := Int.mul_le_mul h h h0 (by omega)
theorem IsFl.uniq {S m n : Int} (h : IsFl S m) (h' : IsFl S n) : m = n := by
  obtain ⟨a0, a1, a2, a3⟩ := h
  obtain ⟨b0, b1, b2, b3⟩ := h'
  rcases Int.lt_trichotomy m n with g | g | g
  · have := sq_le (a := m + 1) (b := n) (by omega) (by omega)
    have := a3 (by omega)
    omega
  · exact g
  · have := sq_le (a := n + 1) (b := m) (by omega) (by omega)
    have := b3 (by omega)
    omega
theorem IsFl.ge {S m f : Int} (h : IsFl S m) (h0 : 0 ≤ f) (h1 : f ≤ 3000) : f ≤ m ↔ f * f * 1000000 ≤ S := by
  obtain ⟨a0, a1, a2, a3⟩ := h
  constructor
  · intro g
    have := sq_le h0 g
    omega
  · intro g
    refine Int.not_lt.1 fun g' => ?_
    have := sq_le (a := m + 1) (b := f) (by omega) (by omega)
    have := a3 (by omega)
    omega
end Go.Proofs.Ytjffblojognlbaa

/- The loss of a hose: both sides. Conditions: none. -/
namespace Go.Proofs.Ytjffblojognlbaa
open Go.RowKit Go.Proofs.YtjffblojognlbaaW.PrintWords
set_option linter.unusedSimpArgs false
set_option linter.unusedVariables false
theorem lossOf_wraps {k len flow : Int} (h0 : 0 ≤ flow) (h1 : flow ≤ 3000) (h2 : 0 ≤ len) (h3 : len ≤ 5000) :
    wrap64 (wrap64 (wrap64 (facOf k * flow) * flow) * len) = facOf k * (flow * flow * len) ∧ 0 ≤ facOf k * (flow * flow * len) ∧ facOf k * (flow * flow * len) ≤ 225000000000000 := by
  have a := mul_bd h0 h1 h0 h1
  have b := mul_bd a.1 a.2 h2 h3
  have f := facOf_bd k
  have c := mul_bd (by omega : 0 ≤ facOf k) f.2 b.1 b.2
  have d := mul_bd (by omega : 0 ≤ facOf k) f.2 h0 h1
  have e := mul_bd (by omega : 0 ≤ facOf k) f.2 a.1 a.2
  rw [w64 (x := facOf k * flow) (by omega) (by omega), Int.mul_assoc (facOf k) flow flow, w64 (x := facOf k * (flow * flow)) (by omega) (by omega), Int.mul_assoc (facOf k), w64 (by omega) (by omega)]
  exact ⟨rfl, by omega, by omega⟩
theorem hoseLoss_eq {k len flow : Int} (hk : 0 ≤ k ∧ k ≤ 3) (h0 : 0 ≤ flow) (h1 : flow ≤ 3000) (h2 : 0 ≤ len) (h3 : len ≤ 5000) : P.impl_hoseLoss.f k len flow = some (lossOf k len flow) := by
  have h := lossOf_wraps (k := k) h0 h1 h2 h3
  simp only [P.impl_hoseLoss.f, P.impl_upTo.f]
  rw [if_pos hk.1, if_pos (by omega), show P.impl_hoseLoss.fac k = facOf k from rfl, h.1, if_neg (by omega)]
  obtain ⟨_, h4, h5⟩ := h
  generalize hg : facOf k * (flow * flow * len) = X at h4 h5 ⊢
  rw [w64 (x := X + 100000000) (by omega) (by omega), w64 (x := X + 100000000 - 1) (by omega) (by omega), Int.tdiv_eq_ediv_of_nonneg (by omega), w64 (by omega) (by omega)]
  unfold lossOf
  rw [hg]
  congr 1
  omega
theorem hoLoss_eq {k len flow : Int} (hk : 0 ≤ k ∧ k ≤ 3) (h0 : 0 ≤ flow) (h1 : flow ≤ 3000) (h2 : 0 ≤ len) (h3 : len ≤ 5000) : P.spec_hoLoss.f k len flow = some (lossOf k len flow) := by
  have h := lossOf_wraps (k := k) h0 h1 h2 h3
  have hr : rd [3, 20, 160, 5000] k = facOf k := by
    have : k = 0 ∨ k = 1 ∨ k = 2 ∨ k = 3 := by omega
    rcases this with rfl | rfl | rfl | rfl <;> rfl
  simp only [P.spec_hoLoss.f, P.spec_hoFactors.f, Option.bind_some, List.length_cons, List.length_nil]
  rw [if_pos hk.1, if_pos (by omega), hr, h.1]
  obtain ⟨_, h4, h5⟩ := h
  generalize hg : facOf k * (flow * flow * len) = X at h4 h5 ⊢
  rw [w64 (x := X + 99999999) (by omega) (by omega), Int.tdiv_eq_ediv_of_nonneg (by omega), w64 (by omega) (by omega)]
  unfold lossOf
  rw [hg]
end Go.Proofs.Ytjffblojognlbaa

/- From some number of rounds on: more rules. Conditions: none. -/
namespace Go.Proofs.Ytjffblojognlbaa
open Go.RowKit Go.Proofs.YtjffblojognlbaaW.PrintWords
/-- One round of a loop, where the rest has rounds enough. -/
theorem ev_step {α : Type} {g f : Nat → Option α} {r : α} (K : Nat) (h : ∀ k, K ≤ k → g (k + 1) = f k) (e : Ev f r) : Ev g r := by
  obtain ⟨K', e⟩ := e
  refine ⟨max K K' + 1, fun n hn => ?_⟩
  obtain ⟨m, rfl⟩ : ∃ m, n = m + 1 := ⟨n - 1, by omega⟩
  rw [h m (by omega)]
  exact e m (by omega)
theorem ev_congr {α : Type} {g f : Nat → Option α} {r : α} (K : Nat) (h : ∀ k, K ≤ k → g k = f k) (e : Ev f r) : Ev g r := by
  obtain ⟨K', e⟩ := e
  exact ⟨max K K', fun n hn => (h n (by omega)).trans (e n (by omega))⟩
theorem ev_end {α : Type} {g : Nat → Option α} {r : α} (K : Nat) (h : ∀ k, K ≤ k → g (k + 1) = some r) : Ev g r := by
  refine ⟨K + 1, fun n hn => ?_⟩
  obtain ⟨m, rfl⟩ : ∃ m, n = m + 1 := ⟨n - 1, by omega⟩
  exact h m (by omega)
theorem ev_now {α : Type} {g : Nat → Option α} {r : α} (K : Nat) (h : ∀ k, K ≤ k → g k = some r) : Ev g r := ⟨K, h⟩
theorem ev_both {α β : Type} {g : Nat → Option α} {f : Nat → Option β} {a : α} {b : β} (h : Ev g a) (h' : Ev f b) : ∃ K, ∀ k, K ≤ k → g k = some a ∧ f k = some b := by
  obtain ⟨K, h⟩ := h
  obtain ⟨K', h'⟩ := h'
  exact ⟨max K K', fun k hk => ⟨h k (by omega), h' k (by omega)⟩⟩
end Go.Proofs.Ytjffblojognlbaa

/- Needs and stages between two points of a profile: both sides. Conditions: none. -/
namespace Go.Proofs.Ytjffblojognlbaa
open Go.RowKit Go.Proofs.YtjffblojognlbaaW.PrintWords
set_option linter.unusedSimpArgs false
set_option linter.unusedVariables false
section
variable (l : List Pt) (kd fl : Int)
def lossAt (i : Nat) : Int := lossOf kd ((pt l (i + 1)).f0 - (pt l i).f0) fl
def needSum : Nat → Nat → Int → Int
  | 0, _, acc => acc
  | d + 1, i, acc => needSum d (i + 1) (acc + lossAt l kd fl i)
def needOf (i j : Nat) : Int := needSum l kd fl (j - i) i ((pt l j).f1 - (pt l i).f1)
def stageB (p q : Int) (i j : Nat) : Bool := decide (needOf l kd fl i j + q ≤ p)
end
section
variable {l : List Pt} {kd fl : Int} (hp : profB l = true) (hk : 0 ≤ kd ∧ kd ≤ 3) (hf : 0 ≤ fl ∧ fl ≤ 3000)
include hp
theorem along_bd {i : Nat} (h : i + 1 < l.length) : 0 ≤ (pt l (i + 1)).f0 - (pt l i).f0 ∧ (pt l (i + 1)).f0 - (pt l i).f0 ≤ 5000 := by
  have := ((profB_spec l hp).2.2.2 (i + 1) h).2.2 (by omega)
  rw [Nat.add_sub_cancel] at this
  omega
include hf
theorem lossAt_bd {i : Nat} (h : i + 1 < l.length) : 0 ≤ lossAt l kd fl i ∧ lossAt l kd fl i ≤ 2250001 :=
  lossOf_bd hf.1 hf.2 (along_bd hp h).1 (along_bd hp h).2
theorem needSum_bd : ∀ (d i : Nat) (acc : Int), i + d < l.length → acc ≤ needSum l kd fl d i acc ∧ needSum l kd fl d i acc ≤ acc + 2250001 * d
  | 0, i, acc, h => by simp only [needSum]; omega
  | d + 1, i, acc, h => by
    have := lossAt_bd (kd := kd) hp hf (i := i) (by omega)
    have := needSum_bd d (i + 1) (acc + lossAt l kd fl i) (by omega)
    simp only [needSum]
    omega
theorem needOf_bd {i j : Nat} (hi : i ≤ j) (hj : j < l.length) : -4000 ≤ needOf l kd fl i j ∧ needOf l kd fl i j ≤ 100000000 := by
  have h := needSum_bd (kd := kd) hp hf (j - i) i ((pt l j).f1 - (pt l i).f1) (by omega)
  obtain ⟨h1, h2, _, h3⟩ := profB_spec l hp
  have a := (h3 j hj).2.1
  have b := (h3 i (by omega)).2.1
  unfold needOf
  omega
include hk
theorem need_l0 (p q : Int) {j : Nat} (hj : j < l.length) : ∀ (d i k : Nat) (acc : Int), i + d = j → d < k → -4000 ≤ acc → acc ≤ 4000 + 2250001 * i →
    P.impl_needBetween.l0 k l (j : Int) acc (i : Int) kd fl p q = some (needSum l kd fl d i acc) ∧ P.spec_ryNeed.l0 k l (j : Int) acc (i : Int) kd fl p q = some (needSum l kd fl d i acc) := by
  obtain ⟨_, h2, _, _⟩ := profB_spec l hp
  intro d
  induction d with
  | zero =>
    intro i k acc h hk1 h3 h4
    obtain ⟨k, rfl⟩ : ∃ m, k = m + 1 := ⟨k - 1, by omega⟩
    simp only [P.impl_needBetween.l0, P.spec_ryNeed.l0, needSum]
    rw [if_neg (by omega), if_neg (by omega)]
    exact ⟨rfl, rfl⟩
  | succ d ih =>
    intro i k acc h hk1 h3 h4
    obtain ⟨k, rfl⟩ : ∃ m, k = m + 1 := ⟨k - 1, by omega⟩
    have ha := along_bd hp (i := i) (by omega)
    have hl := lossAt_bd (kd := kd) hp hf (i := i) (by omega)
    simp only [P.impl_needBetween.l0, P.spec_ryNeed.l0, needSum]
    rw [w64_succ (by omega), if_pos (by omega), if_pos (by omega), if_pos (by omega), if_pos (by omega), if_pos (by omega), if_pos (by omega), if_pos (by omega), if_pos (by omega), if_pos (by omega), if_pos (by omega)]
    simp only [rd_pt]
    rw [w64 (x := (pt l (i + 1)).f0 - (pt l i).f0) (by omega) (by omega), hoseLoss_eq hk hf.1 hf.2 ha.1 ha.2, hoLoss_eq hk hf.1 hf.2 ha.1 ha.2]
    simp only [Option.bind_some]
    have e : lossOf kd ((pt l (i + 1)).f0 - (pt l i).f0) fl = lossAt l kd fl i := rfl
    rw [e, w64 (x := acc + lossAt l kd fl i) (by omega) (by omega)]
    exact ih (i + 1) k _ (by omega) (by omega) (by omega) (by omega)
theorem need_eq (p q : Int) {i j : Nat} (hi : i ≤ j) (hj : j < l.length) (k : Nat) (hk1 : 50 < k) :
    P.impl_needBetween.f k l kd fl p q (i : Int) (j : Int) = some (needOf l kd fl i j) ∧ P.spec_ryNeed.f k l kd fl p q (i : Int) (j : Int) = some (needOf l kd fl i j) := by
  obtain ⟨h1, h2, _, h3⟩ := profB_spec l hp
  have a := (h3 j hj).2.1
  have b := (h3 i (by omega)).2.1
  simp only [P.impl_needBetween.f, P.spec_ryNeed.f]
  rw [if_pos (by omega), if_pos (by omega), if_pos (by omega), if_pos (by omega), if_pos (by omega), if_pos (by omega), if_pos (by omega), if_pos (by omega)]
  simp only [rd_pt]
  rw [w64 (by omega) (by omega)]
  exact need_l0 hp hk hf p q hj (j - i) i k _ (by omega) (by omega) (by omega) (by omega)
theorem stage_eq {p q : Int} (hq : 0 ≤ q ∧ q ≤ 2000) {i j : Nat} (hi : i ≤ j) (hj : j < l.length) (k : Nat) (hk1 : 50 < k) :
    P.impl_stagePossible.f k l kd fl p q (i : Int) (j : Int) = some (stageB l kd fl p q i j) ∧ P.spec_ryStage.f k l kd fl p q (i : Int) (j : Int) = some (stageB l kd fl p q i j) := by
  have h := need_eq hp hk hf p q hi hj k hk1
  have hb := needOf_bd (kd := kd) hp hf hi hj
  simp only [P.impl_stagePossible.f, P.spec_ryStage.f, h.1, h.2, Option.bind_some]
  rw [w64 (by omega) (by omega)]
  exact ⟨rfl, rfl⟩
end
theorem relayOk_spec {a b c d : Int} (h : relayOk a b c d = true) : (0 ≤ a ∧ a ≤ 3) ∧ (0 ≤ b ∧ b ≤ 3000) ∧ (100 ≤ c ∧ c ≤ 2000) ∧ (0 ≤ d ∧ d ≤ 2000) ∧ 10 ≤ d := by
  simp only [relayOk, decide_eq_true_eq] at h
  omega
/-- What is asked of the first two arguments. -/
theorem asked_eq (l : List Pt) (a b c d : Int) (k : Nat) (hk : 50 < k) : P.spec_ryAsked.f k l a b c d = some (profB l && relayOk a b c d) := by
  simp only [P.spec_ryAsked.f, ryProfile_eq l k hk, Option.bind_some, ryGood_eq]
  by_cases h : profB l = true
  · rw [if_pos h, h, Bool.true_and]
  · rw [if_neg h, Bool.eq_false_iff.2 h, Bool.false_and]
end Go.Proofs.Ytjffblojognlbaa

/- The fewest pumps from each point on: two ways to compute them agree. No program in sight. Conditions: none. -/
namespace Go.Proofs.Ytjffblojognlbaa
open Go.RowKit
set_option linter.unusedSimpArgs false
set_option linter.unusedVariables false
namespace Pump
abbrev g (l : List Int) (j : Nat) : Int := l.getD j 0
theorem g_set (l : List Int) (i j : Nat) (v : Int) (h : i < l.length) : g (l.set i v) j = if i = j then v else g l j := by
  simp only [g, List.getD_eq_getElem?_getD, List.getElem?_set]
  by_cases e : i = j
  · subst e; simp [h]
  · simp [e]
section
variable (st : Nat → Nat → Bool)
def stepS (F : List Int) (i tt : Nat) : List Int := if 0 ≤ g F tt ∧ st i tt = true ∧ (g F i < 0 ∨ wrap64 (g F tt + 1) < g F i) then F.set i (wrap64 (g F tt + 1)) else F
def stepI (G N : List Int) (i tt : Nat) : List Int × List Int := if st i tt = true ∧ wrap64 (g G tt + 1) < g G i then (G.set i (wrap64 (g G tt + 1)), N.set i (tt : Int)) else (G, N)
def inS (i : Nat) : Nat → List Int → Nat → List Int
  | 0, F, _ => F
  | d + 1, F, tt => inS i d (stepS st F i tt) (tt + 1)
def inI (i : Nat) : Nat → List Int → List Int → Nat → List Int × List Int
  | 0, G, N, _ => (G, N)
  | d + 1, G, N, tt => inI i d (stepI st G N i tt).1 (stepI st G N i tt).2 (tt + 1)
def outS (last : Nat) : Nat → List Int → List Int
  | 0, F => F
  | i + 1, F => outS last i (inS st i (last - i) (F.set i (-1)) (i + 1))
def outI (last : Nat) : Nat → List Int → List Int → List Int × List Int
  | 0, G, N => (G, N)
  | i + 1, G, N => outI last i (inI st i (last - i) (G.set i 41) N (i + 1)).1 (inI st i (last - i) (G.set i 41) N (i + 1)).2
/-- The next point of a plan with the fewest pumps. -/
def Nx (last : Nat) (F N : List Int) (j : Nat) : Prop := ∃ u : Nat, g N j = u ∧ j < u ∧ u ≤ last ∧ st j u = true ∧ g F u = g F j - 1 ∧ 0 ≤ g F u ∧ ∀ w, j < w → w < u → ¬ (st j w = true ∧ g F w = g F j - 1)
structure Rel (last i : Nat) (F G N : List Int) : Prop where
  lenF : F.length = last + 1
  lenG : G.length = last + 1
  lenN : N.length = last + 1
  z : g F last = 0
  v : ∀ j, i ≤ j → j ≤ last → -1 ≤ g F j ∧ g F j ≤ (last : Int) - j ∧ g G j = if g F j < 0 then 41 else g F j
  nx : ∀ j, i ≤ j → j < last → 0 ≤ g F j → Nx st last F N j
structure Cur (last i tt : Nat) (F G N : List Int) : Prop where
  v : -1 ≤ g F i ∧ g F i ≤ (last : Int) - i ∧ g G i = if g F i < 0 then 41 else g F i
  nx : 0 ≤ g F i → Nx st last F N i
  low : ∀ u, i < u → u < tt → st i u = true → 0 ≤ g F u → 0 ≤ g F i ∧ g F i ≤ g F u + 1
  below : 0 ≤ g F i → ∃ u : Nat, g N i = u ∧ u < tt
theorem Rel.set {last i : Nat} {F G N : List Int} (h : Rel st last (i + 1) F G N) (hi : i < last) (a b c : Int) : Rel st last (i + 1) (F.set i a) (G.set i b) (N.set i c) := by
  have hF := h.lenF
  have hG := h.lenG
  have hN := h.lenN
  refine ⟨by simp [hF], by simp [hG], by simp [hN], ?_, fun j h1 h2 => ?_, fun j h1 h2 h3 => ?_⟩
  · rw [g_set _ _ _ _ (by omega), if_neg (by omega)]; exact h.z
  · rw [g_set _ _ _ _ (by omega), if_neg (by omega), g_set _ _ _ _ (by omega), if_neg (by omega)]; exact h.v j h1 h2
  · rw [g_set _ _ _ _ (by omega), if_neg (by omega)] at h3
    obtain ⟨u, e1, e2, e3, e4, e5, e7, e6⟩ := h.nx j h1 h2 h3
    refine ⟨u, ?_, e2, e3, e4, ?_, ?_, fun w w1 w2 => ?_⟩
    · rw [g_set _ _ _ _ (by omega), if_neg (by omega)]; exact e1
    · rw [g_set _ _ _ _ (by omega), if_neg (by omega), g_set _ _ _ _ (by omega), if_neg (by omega)]; exact e5
    · rw [g_set _ _ _ _ (by omega), if_neg (by omega)]; exact e7
    · rw [g_set _ _ _ _ (by omega), if_neg (by omega), g_set _ _ _ _ (by omega), if_neg (by omega)]; exact e6 w w1 w2
theorem set_self (l : List Int) (i : Nat) (h : i < l.length) : l.set i (g l i) = l := by
  apply List.ext_getElem?
  intro j
  rw [List.getElem?_set]
  split
  · next e => subst e; simp [g, List.getD_eq_getElem?_getD, h]
  · rfl
theorem step_rel {last i tt : Nat} {F G N : List Int} (hl : last ≤ 39) (h : Rel st last (i + 1) F G N) (hi : i < last) (h1 : i < tt) (h2 : tt ≤ last) (c : Cur st last i tt F G N) :
    Rel st last (i + 1) (stepS st F i tt) (stepI st G N i tt).1 (stepI st G N i tt).2 ∧ Cur st last i (tt + 1) (stepS st F i tt) (stepI st G N i tt).1 (stepI st G N i tt).2 := by
  have vt := h.v tt (by omega) h2
  have vi := c.v
  have hF := h.lenF
  have hG := h.lenG
  have hN := h.lenN
  have hw : wrap64 (g F tt + 1) = g F tt + 1 := w64 (by omega) (by omega)
  have hwG : wrap64 (g G tt + 1) = g G tt + 1 := by
    rw [vt.2.2]
    split
    · exact w64 (by omega) (by omega)
    · exact w64 (by omega) (by omega)
  by_cases hst : st i tt = true
  · by_cases hc : 0 ≤ g F tt ∧ (g F i < 0 ∨ g F tt + 1 < g F i)
    · have e1 : stepS st F i tt = F.set i (g F tt + 1) := by unfold stepS; rw [hw, if_pos ⟨hc.1, hst, hc.2⟩]
      have hG2 : g G tt = g F tt := by rw [vt.2.2, if_neg (by omega)]
      have e2 : stepI st G N i tt = (G.set i (g F tt + 1), N.set i (tt : Int)) := by
        have hlt : g F tt + 1 < g G i := by
          rw [vi.2.2]
          split <;> omega
        unfold stepI
        rw [hwG, hG2, if_pos ⟨hst, hlt⟩]
      rw [e1, e2]
      refine ⟨h.set st hi _ _ _, ?_, fun _ => ⟨tt, ?_, h1, h2, hst, ?_, ?_, fun w w1 w2 => ?_⟩, fun u u1 u2 u3 u4 => ?_, fun _ => ⟨tt, ?_, by omega⟩⟩
      · rw [g_set _ _ _ _ (by omega), if_pos rfl, g_set _ _ _ _ (by omega), if_pos rfl, if_neg (by omega)]
        exact ⟨by omega, by omega, rfl⟩
      · rw [g_set _ _ _ _ (by omega), if_pos rfl]
      · rw [g_set _ _ _ _ (by omega), if_neg (by omega), g_set _ _ _ _ (by omega), if_pos rfl]; omega
      · rw [g_set _ _ _ _ (by omega), if_neg (by omega)]; exact hc.1
      · rw [g_set _ _ _ _ (by omega), if_neg (by omega), g_set _ _ _ _ (by omega), if_pos rfl]
        intro ⟨q1, q2⟩
        have := c.low w w1 w2 q1 (by omega)
        omega
      · rw [g_set _ _ _ _ (by omega), if_neg (by omega)] at u4
        rw [g_set _ _ _ _ (by omega), if_pos rfl, g_set _ _ _ _ (by omega), if_neg (by omega)]
        by_cases e : u = tt
        · subst e; omega
        · have := c.low u u1 (by omega) u3 u4
          omega
      · rw [g_set _ _ _ _ (by omega), if_pos rfl]
    · have e1 : stepS st F i tt = F := by unfold stepS; rw [hw, if_neg (fun q => hc ⟨q.1, q.2.2⟩)]
      have e2 : stepI st G N i tt = (G, N) := by
        unfold stepI
        rw [hwG, if_neg (fun q => ?_)]
        have q2 := q.2
        rw [vt.2.2, vi.2.2] at q2
        by_cases q3 : g F tt < 0
        · rw [if_pos q3] at q2
          split at q2 <;> omega
        · rw [if_neg q3] at q2
          apply hc
          split at q2 <;> omega
      rw [e1, e2]
      refine ⟨h, c.v, c.nx, fun u u1 u2 u3 u4 => ?_, fun q => ?_⟩
      · by_cases e : u = tt
        · subst e; omega
        · exact c.low u u1 (by omega) u3 u4
      · obtain ⟨u, q1, q2⟩ := c.below q
        exact ⟨u, q1, by omega⟩
  · have e1 : stepS st F i tt = F := by unfold stepS; rw [if_neg (fun q => hst q.2.1)]
    have e2 : stepI st G N i tt = (G, N) := by unfold stepI; rw [if_neg (fun q => hst q.1)]
    rw [e1, e2]
    refine ⟨h, c.v, c.nx, fun u u1 u2 u3 u4 => ?_, fun q => ?_⟩
    · by_cases e : u = tt
      · subst e; exact absurd u3 hst
      · exact c.low u u1 (by omega) u3 u4
    · obtain ⟨u, q1, q2⟩ := c.below q
      exact ⟨u, q1, by omega⟩
theorem in_rel {last i : Nat} (hl : last ≤ 39) (hi : i < last) : ∀ (d : Nat) {tt : Nat} {F G N : List Int}, tt + d = last + 1 → i < tt → Rel st last (i + 1) F G N → Cur st last i tt F G N →
    Rel st last i (inS st i d F tt) (inI st i d G N tt).1 (inI st i d G N tt).2
  | 0, tt, F, G, N, h, h1, r, c => ⟨r.lenF, r.lenG, r.lenN, r.z, fun j j1 j2 => by
      by_cases e : j = i
      · subst e; exact c.v
      · exact r.v j (by omega) j2, fun j j1 j2 j3 => by
      by_cases e : j = i
      · subst e; exact c.nx j3
      · exact r.nx j (by omega) j2 j3⟩
  | d + 1, tt, F, G, N, h, h1, r, c => by
    obtain ⟨r', c'⟩ := step_rel st hl r hi h1 (by omega) c
    exact in_rel hl hi d (by omega) (by omega) r' c'
theorem out_rel {last : Nat} (hl : last ≤ 39) : ∀ (i : Nat) {F G N : List Int}, i ≤ last → Rel st last i F G N → Rel st last 0 (outS st last i F) (outI st last i G N).1 (outI st last i G N).2
  | 0, F, G, N, h, r => r
  | i + 1, F, G, N, h, r => by
    have hN := r.lenN
    have hF := r.lenF
    have hG := r.lenG
    have r1 := r.set st (i := i) (by omega) (-1) 41 (g N i)
    rw [set_self _ _ (by omega)] at r1
    refine out_rel hl i (by omega) (in_rel st hl (by omega) (last - i) (by omega) (by omega) r1 ⟨?_, fun q => ?_, fun u u1 u2 => by omega, fun q => ?_⟩)
    · rw [g_set _ _ _ _ (by omega), if_pos rfl, g_set _ _ _ _ (by omega), if_pos rfl, if_pos (by omega)]; omega
    · rw [g_set _ _ _ _ (by omega), if_pos rfl] at q; omega
    · rw [g_set _ _ _ _ (by omega), if_pos rfl] at q; omega
theorem zeros_rel (last : Nat) : Rel st last last (List.replicate (last + 1) 0) (List.replicate (last + 1) 0) (List.replicate (last + 1) 0) := by
  have hz : ∀ j, g (List.replicate (last + 1) (0 : Int)) j = 0 := by
    intro j
    simp only [g, List.getD_eq_getElem?_getD, List.getElem?_replicate]
    split <;> rfl
  refine ⟨by simp, by simp, by simp, hz _, fun j h1 h2 => ?_, fun j h1 h2 => by omega⟩
  rw [hz, if_neg (by omega)]
  omega
theorem inS_length (i : Nat) : ∀ (d : Nat) (F : List Int) (tt : Nat), (inS st i d F tt).length = F.length
  | 0, F, tt => rfl
  | d + 1, F, tt => by
    simp only [inS]
    rw [inS_length i d]
    unfold stepS
    split
    · simp
    · rfl
theorem inI_length (i : Nat) : ∀ (d : Nat) (G N : List Int) (tt : Nat), (inI st i d G N tt).1.length = G.length ∧ (inI st i d G N tt).2.length = N.length
  | 0, G, N, tt => ⟨rfl, rfl⟩
  | d + 1, G, N, tt => by
    simp only [inI]
    have := inI_length i d (stepI st G N i tt).1 (stepI st G N i tt).2 (tt + 1)
    rw [this.1, this.2]
    unfold stepI
    split
    · simp
    · exact ⟨rfl, rfl⟩
end
end Pump
end Go.Proofs.Ytjffblojognlbaa

/- The plan with the fewest pumps: both sides find the same one. Conditions: none. -/
namespace Go.Proofs.Ytjffblojognlbaa
open Go.RowKit Go.Proofs.YtjffblojognlbaaW.PrintWords
set_option linter.unusedSimpArgs false
set_option linter.unusedVariables false
theorem rd_g (l : List Int) (j : Nat) : rd l (j : Int) = Pump.g l j := by simp [rd, Pump.g]
theorem rd_g0 (l : List Int) : rd l 0 = Pump.g l 0 := rd_g l 0
section
variable {l : List Pt} {kd fl p q : Int} (hp : profB l = true) (hk : 0 ≤ kd ∧ kd ≤ 3) (hf : 0 ≤ fl ∧ fl ≤ 3000) (hq : 0 ≤ q ∧ q ≤ 2000)
include hp hk hf hq
theorem impl_l1 {last i : Nat} (hlast : last + 1 = l.length) (hi : i < last) {r : List Int × Bool} : ∀ (d tt : Nat) (G N : List Int), tt + d = last + 1 → i < tt → G.length = last + 1 → N.length = last + 1 →
    Ev (fun k => P.impl_pumpPlaces.l0 k l (last : Int) (Pump.inI (stageB l kd fl p q) i d G N tt).1 (Pump.inI (stageB l kd fl p q) i d G N tt).2 (wrap64 ((i : Int) - 1)) kd fl p q) r →
    Ev (fun k => P.impl_pumpPlaces.l1 k l (last : Int) G N (i : Int) (tt : Int) kd fl p q) r := by
  have hl40 := (profB_spec l hp).2.1
  intro d
  induction d with
  | zero =>
    intro tt G N h1 h2 hG hN e
    refine ev_step 0 (fun k _ => ?_) e
    simp only [P.impl_pumpPlaces.l1, Pump.inI]
    rw [if_neg (by omega)]
  | succ d ih =>
    intro tt G N h1 h2 hG hN e
    refine ev_step 51 (fun k hk1 => ?_) (ih (tt + 1) (Pump.stepI (stageB l kd fl p q) G N i tt).1 (Pump.stepI (stageB l kd fl p q) G N i tt).2 (by omega) (by omega) ?_ ?_ e)
    · simp only [P.impl_pumpPlaces.l1]
      rw [if_pos (by omega), (stage_eq hp hk hf hq (i := i) (j := tt) (by omega) (by omega) k (by omega)).1]
      simp only [Option.bind_some, rd_g]
      rw [w64_succ (by omega)]
      unfold Pump.stepI
      by_cases hs : stageB l kd fl p q i tt = true
      · rw [if_pos hs, if_pos (by omega), if_pos (by omega), if_pos (by omega), if_pos (by omega)]
        by_cases hc : wrap64 (Pump.g G tt + 1) < Pump.g G i
        · rw [if_pos hc, if_pos (by omega), if_pos ⟨hs, hc⟩]
          rfl
        · rw [if_neg hc, if_neg (fun h => hc h.2)]
      · rw [if_neg hs, if_neg (fun h => hs h.1)]
    · unfold Pump.stepI
      split
      · simpa using hG
      · exact hG
    · unfold Pump.stepI
      split
      · simpa using hN
      · exact hN
theorem impl_l0 {last : Nat} (hlast : last + 1 = l.length) {r : List Int × Bool} : ∀ (i : Nat) (G N : List Int), i ≤ last → G.length = last + 1 → N.length = last + 1 →
    Ev (fun k => P.impl_pumpPlaces.l0 k l (last : Int) (Pump.outI (stageB l kd fl p q) last i G N).1 (Pump.outI (stageB l kd fl p q) last i G N).2 (-1) kd fl p q) r →
    Ev (fun k => P.impl_pumpPlaces.l0 k l (last : Int) G N ((i : Int) - 1) kd fl p q) r := by
  have hl40 := (profB_spec l hp).2.1
  intro i
  induction i with
  | zero => intro G N h hG hN e; exact e
  | succ i ih =>
    intro G N h hG hN e
    have hlen := Pump.inI_length (stageB l kd fl p q) i (last - i) (G.set i 41) N (i + 1)
    have e1 := ih _ _ (by omega) (by rw [hlen.1]; simpa using hG) (by rw [hlen.2]; exact hN) e
    have e2 : Ev (fun k => P.impl_pumpPlaces.l0 k l (last : Int) (Pump.inI (stageB l kd fl p q) i (last - i) (G.set i 41) N (i + 1)).1 (Pump.inI (stageB l kd fl p q) i (last - i) (G.set i 41) N (i + 1)).2 (wrap64 ((i : Int) - 1)) kd fl p q) r := by
      rw [w64 (by omega) (by omega)]; exact e1
    refine ev_step 0 (fun k _ => ?_) (impl_l1 hp hk hf hq hlast (by omega) (last - i) (i + 1) (G.set i 41) N (by omega) (by omega) (by simpa using hG) hN e2)
    rw [show ((i + 1 : Nat) : Int) - 1 = (i : Int) by omega]
    simp only [P.impl_pumpPlaces.l0]
    rw [if_pos (by omega), if_pos (by omega), if_pos (by omega), w64_succ (by omega)]
    rfl
theorem spec_l1 {last i : Nat} (hlast : last + 1 = l.length) (hi : i < last) {r : List Int × Bool} : ∀ (d tt : Nat) (G : List Int), tt + d = last + 1 → i < tt → G.length = last + 1 →
    Ev (fun k => P.spec_ryPumps.l0 k l (last : Int) (Pump.inS (stageB l kd fl p q) i d G tt) (wrap64 ((i : Int) - 1)) kd fl p q) r →
    Ev (fun k => P.spec_ryPumps.l1 k l (last : Int) G (i : Int) (tt : Int) kd fl p q) r := by
  have hl40 := (profB_spec l hp).2.1
  intro d
  induction d with
  | zero =>
    intro tt G h1 h2 hG e
    refine ev_step 0 (fun k _ => ?_) e
    simp only [P.spec_ryPumps.l1, Pump.inS]
    rw [if_neg (by omega)]
  | succ d ih =>
    intro tt G h1 h2 hG e
    refine ev_step 51 (fun k hk1 => ?_) (ih (tt + 1) (Pump.stepS (stageB l kd fl p q) G i tt) (by omega) (by omega) ?_ e)
    · simp only [P.spec_ryPumps.l1]
      rw [if_pos (by omega), if_pos (by omega), if_pos (by omega), (stage_eq hp hk hf hq (i := i) (j := tt) (by omega) (by omega) k (by omega)).2]
      simp only [Option.bind_some, rd_g]
      rw [w64_succ (by omega)]
      unfold Pump.stepS
      by_cases h0 : Pump.g G tt ≥ 0
      · rw [if_pos h0]
        by_cases hs : stageB l kd fl p q i tt = true
        · rw [if_pos hs, if_pos (by omega), if_pos (by omega)]
          by_cases hn : Pump.g G i < 0
          · rw [if_pos hn, if_pos ⟨h0, hs, .inl hn⟩]
            rfl
          · rw [if_neg hn]
            by_cases hc : wrap64 (Pump.g G tt + 1) < Pump.g G i
            · rw [if_pos hc, if_pos ⟨h0, hs, .inr hc⟩]
              rfl
            · rw [if_neg hc, if_neg (fun h => h.2.2.elim hn hc)]
        · rw [if_neg hs, if_neg (fun h => hs h.2.1)]
      · rw [if_neg h0, if_neg (fun h => h0 h.1)]
    · unfold Pump.stepS
      split
      · simpa using hG
      · exact hG
theorem spec_l0 {last : Nat} (hlast : last + 1 = l.length) {r : List Int × Bool} : ∀ (i : Nat) (G : List Int), i ≤ last → G.length = last + 1 →
    Ev (fun k => P.spec_ryPumps.l0 k l (last : Int) (Pump.outS (stageB l kd fl p q) last i G) (-1) kd fl p q) r →
    Ev (fun k => P.spec_ryPumps.l0 k l (last : Int) G ((i : Int) - 1) kd fl p q) r := by
  have hl40 := (profB_spec l hp).2.1
  intro i
  induction i with
  | zero => intro G h hG e; exact e
  | succ i ih =>
    intro G h hG e
    have hlen := Pump.inS_length (stageB l kd fl p q) i (last - i) (G.set i (-1)) (i + 1)
    have e1 := ih _ (by omega) (by rw [hlen]; simpa using hG) e
    have e2 : Ev (fun k => P.spec_ryPumps.l0 k l (last : Int) (Pump.inS (stageB l kd fl p q) i (last - i) (G.set i (-1)) (i + 1)) (wrap64 ((i : Int) - 1)) kd fl p q) r := by
      rw [w64 (by omega) (by omega)]; exact e1
    refine ev_step 0 (fun k _ => ?_) (spec_l1 hp hk hf hq hlast (by omega) (last - i) (i + 1) (G.set i (-1)) (by omega) (by omega) (by simpa using hG) e2)
    rw [show ((i + 1 : Nat) : Int) - 1 = (i : Int) by omega]
    simp only [P.spec_ryPumps.l0]
    rw [if_pos (by omega), if_pos (by omega), if_pos (by omega), w64_succ (by omega)]
    rfl
/-- The walk to the next point of the plan. -/
theorem spec_l3 {last j u : Nat} (hlast : last + 1 = l.length) {F : List Int} (hF : F.length = last + 1) (out : List Int) (hu : u ≤ last) (h1 : stageB l kd fl p q j u = true) (h2 : Pump.g F u = Pump.g F j - 1) (h3 : ∀ w, j < w → w < u → ¬ (stageB l kd fl p q j w = true ∧ Pump.g F w = Pump.g F j - 1))
    (hb : -1 ≤ Pump.g F j ∧ Pump.g F j ≤ 1000) {r : List Int × Bool} (e : Ev (fun k => P.spec_ryPumps.l2 k l (last : Int) F out (u : Int) kd fl p q) r) : ∀ (d w : Nat), w + d = u → j < w →
    Ev (fun k => P.spec_ryPumps.l3 k l (last : Int) F out (j : Int) (w : Int) kd fl p q) r := by
  have hl40 := (profB_spec l hp).2.1
  intro d
  induction d with
  | zero =>
    intro w h hw
    obtain rfl : w = u := by omega
    refine ev_step 51 (fun k hk1 => ?_) e
    simp only [P.spec_ryPumps.l3]
    rw [if_pos (by omega), if_pos (by omega), if_pos (by omega), if_pos (by omega), (stage_eq hp hk hf hq (i := j) (j := w) (by omega) (by omega) k (by omega)).2]
    simp only [rd_g, Option.bind_some]
    rw [w64 (by omega) (by omega), if_pos h2, if_pos h1]
  | succ d ih =>
    intro w h hw
    refine ev_step 51 (fun k hk1 => ?_) (ih (w + 1) (by omega) (by omega))
    simp only [P.spec_ryPumps.l3]
    rw [if_pos (by omega), if_pos (by omega), if_pos (by omega), if_pos (by omega), (stage_eq hp hk hf hq (i := j) (j := w) (by omega) (by omega) k (by omega)).2]
    simp only [rd_g, Option.bind_some]
    rw [w64 (by omega) (by omega), w64_succ (by omega)]
    by_cases hc : Pump.g F w = Pump.g F j - 1
    · rw [if_pos hc, if_neg (fun h => h3 w hw (by omega) ⟨h, hc⟩)]
    · rw [if_neg hc]
theorem walk_same {last : Nat} (hlast : last + 1 = l.length) {F G N : List Int} (hr : Pump.Rel (stageB l kd fl p q) last 0 F G N) : ∀ (d j : Nat), j + d = last → 0 ≤ Pump.g F j →
    ∃ O : List Int, O.length ≤ d ∧ (∀ x ∈ O, (j : Int) ≤ x ∧ x < last) ∧ ∀ out : List Int, out.length + d ≤ 100 → Ev (fun k => P.impl_pumpPlaces.l2 k (last : Int) N out (j : Int)) (out ++ O, true) ∧ Ev (fun k => P.spec_ryPumps.l2 k l (last : Int) F out (j : Int) kd fl p q) (out ++ O, true) := by
  have hl40 := (profB_spec l hp).2.1
  have hF := hr.lenF
  have hN := hr.lenN
  intro d
  induction d using Nat.strongRecOn with
  | ind d ih =>
    intro j h h0
    by_cases hd : d = 0
    · subst hd
      refine ⟨[], by simp, by simp, fun out ho => ⟨?_, ?_⟩⟩
      · refine ev_end 0 (fun k _ => ?_)
        simp only [P.impl_pumpPlaces.l2]
        rw [if_neg (by omega)]
        simp
      · refine ev_end 0 (fun k _ => ?_)
        simp only [P.spec_ryPumps.l2]
        rw [if_pos (by omega)]
        simp
    · obtain ⟨u, u1, u2, u3, u4, u5, u6, u7⟩ := hr.nx j (by omega) (by omega) h0
      obtain ⟨O, o1, o2, o3⟩ := ih (last - u) (by omega) u (by omega) u6
      have hv := hr.v j (by omega) (by omega)
      refine ⟨(j : Int) :: O, by simp; omega, ?_, fun out ho => ?_⟩
      · intro x hx
        rcases List.mem_cons.1 hx with rfl | hx
        · omega
        · have := o2 x hx
          omega
      · obtain ⟨e1, e2⟩ := o3 (out ++ [(j : Int)]) (by simp; omega)
        rw [List.append_assoc, List.singleton_append] at e1 e2
        refine ⟨ev_step 0 (fun k _ => ?_) e1, ev_step 0 (fun k _ => ?_) (spec_l3 hp hk hf hq hlast hF _ u3 u4 u5 u7 (by omega) e2 (u - (j + 1)) (j + 1) (by omega) (by omega))⟩
        · simp only [P.impl_pumpPlaces.l2]
          rw [if_pos (by omega), if_pos (by omega), if_pos (by omega), if_pos (by omega), rd_g, u1]
        · simp only [P.spec_ryPumps.l2]
          rw [if_neg (by omega), if_pos (by omega), w64_succ (by omega)]
/-- Both sides find the same plan. -/
theorem pumps_same : ∃ v : List Int × Bool, v.1.length ≤ 39 ∧ ∃ K, ∀ k, K ≤ k → P.impl_pumpPlaces.f k l kd fl p q = some v ∧ P.spec_ryPumps.f k l kd fl p q = some v := by
  obtain ⟨h1, h2, _, _⟩ := profB_spec l hp
  obtain ⟨last, hlast⟩ : ∃ last, last + 1 = l.length := ⟨l.length - 1, by omega⟩
  have hr := Pump.out_rel (stageB l kd fl p q) (last := last) (by omega) last (Nat.le_refl _) (Pump.zeros_rel (stageB l kd fl p q) last)
  have hi := fun r => impl_l0 (p := p) hp hk hf hq hlast (r := r) last (List.replicate (last + 1) 0) (List.replicate (last + 1) 0) (Nat.le_refl _) (by simp) (by simp)
  have hs := fun r => spec_l0 (p := p) hp hk hf hq hlast (r := r) last (List.replicate (last + 1) 0) (Nat.le_refl _) (by simp)
  have hfin : ∀ v : List Int × Bool, Ev (fun k => P.impl_pumpPlaces.l0 k l (last : Int) (List.replicate (last + 1) 0) (List.replicate (last + 1) 0) ((last : Int) - 1) kd fl p q) v → Ev (fun k => P.spec_ryPumps.l0 k l (last : Int) (List.replicate (last + 1) 0) ((last : Int) - 1) kd fl p q) v →
      ∃ K, ∀ k, K ≤ k → P.impl_pumpPlaces.f k l kd fl p q = some v ∧ P.spec_ryPumps.f k l kd fl p q = some v := by
    intro v e1 e2
    refine ev_both (ev_congr 0 (fun k _ => ?_) e1) (ev_congr 0 (fun k _ => ?_) e2)
    · simp only [P.impl_pumpPlaces.f]
      rw [if_pos (by omega), if_pos (by omega), w64 (x := (l.length : Int) - 1) (by omega) (by omega), show (l.length : Int) - 1 = (last : Int) by omega, w64 (by omega) (by omega), show (l.length : Int).toNat = last + 1 by omega]
    · simp only [P.spec_ryPumps.f]
      rw [if_pos (by omega), if_pos (by omega), w64 (x := (l.length : Int) - 1) (by omega) (by omega), show (l.length : Int) - 1 = (last : Int) by omega, w64 (by omega) (by omega), show (l.length : Int).toNat = last + 1 by omega]
  generalize Pump.outS (stageB l kd fl p q) last last (List.replicate (last + 1) 0) = F at hr hs
  generalize (Pump.outI (stageB l kd fl p q) last last (List.replicate (last + 1) 0) (List.replicate (last + 1) 0)).1 = G at hr hi
  generalize (Pump.outI (stageB l kd fl p q) last last (List.replicate (last + 1) 0) (List.replicate (last + 1) 0)).2 = N at hr hi
  have hv := hr.v 0 (by omega) (by omega)
  have hF := hr.lenF
  have hG := hr.lenG
  have hN := hr.lenN
  by_cases h0 : Pump.g F 0 < 0
  · refine ⟨([], false), by simp, hfin _ (hi _ (ev_end 0 (fun k _ => ?_))) (hs _ (ev_end 0 (fun k _ => ?_)))⟩
    · simp only [P.impl_pumpPlaces.l0]
      rw [if_neg (by omega), if_pos (by omega), rd_g0, hv.2.2, if_pos h0, if_pos (by omega)]
    · simp only [P.spec_ryPumps.l0]
      rw [if_neg (by omega), if_pos (by omega), rd_g0, if_pos h0]
  · obtain ⟨O, o1, o2, o3⟩ := walk_same hp hk hf hq hlast hr last 0 (by omega) (by omega)
    obtain ⟨e1, e2⟩ := o3 [] (by simp; omega)
    refine ⟨(O, true), by simp; omega, hfin _ (hi _ (ev_step 0 (fun k _ => ?_) e1)) (hs _ (ev_step 0 (fun k _ => ?_) e2))⟩
    · simp only [P.impl_pumpPlaces.l0]
      rw [if_neg (by omega), if_pos (by omega), rd_g0, hv.2.2, if_neg h0, if_neg (by omega)]
      rfl
    · simp only [P.spec_ryPumps.l0]
      rw [if_neg (by omega), if_pos (by omega), rd_g0, if_neg h0]
      rfl
end
end Go.Proofs.Ytjffblojognlbaa

/- Slices of whole numbers: equality, marks. Conditions: none beyond those of each lemma. -/
namespace Go.Proofs.Ytjffblojognlbaa
open Go.RowKit Go.Proofs.YtjffblojognlbaaW.PrintWords
set_option linter.unusedSimpArgs false
set_option linter.unusedVariables false
theorem rd_nat (l : List Int) (i : Nat) : rd l (i : Int) = l.getD i 0 := by simp [rd]
theorem eqIntS_refl (l : List Int) (hl : l.length ≤ 1048576) (k : Nat) (hk : l.length < k) : P.laws_eqIntS.f k l l = some true := by
  simp only [P.laws_eqIntS.f, if_true]
  have := all_loop_end (F := fun k i => P.laws_eqIntS.l0 k l l i) (n := l.length) (fun _ => true) true 0 (fun k i _ hi _ => ?_) (fun k _ _ => ?_) l.length 0 k (by omega) (by omega) (fun j hj => rfl)
  · rw [allFrom_true] at this
    exact this
  · simp only [P.laws_eqIntS.l0]
    rw [if_pos (by omega), if_pos (by omega), if_pos (by omega), w64_succ (by omega)]
  · simp only [P.laws_eqIntS.l0]
    rw [if_neg (by omega)]
def mkInt (m : Int) (_ : Int) : Int := m
theorem markIntS_l0 (l A : List Int) (m : Int) (k : Nat) (h : A.length + l.length ≤ 1048576) (h0 : 0 ≤ m) (h1 : m + l.length ≤ 1000000000) (hk : l.length < k) : P.laws_markIntS.l0 k (A ++ l) m (A.length : Int) = some (m + l.length, A ++ marked mkInt 1 m l) := by
  have := mark_loop (F := fun k x m i => P.laws_markIntS.l0 k x m i) mkInt 1 0 (fun k A x l m _ h0 h1 h => ?_) (fun k A m => ?_) l A m k h h0 (by omega) (by omega)
  · rw [show m + ((1 : Nat) : Int) * (l.length : Int) = m + l.length by omega] at this
    exact this
  · simp only [P.laws_markIntS.l0]
    rw [if_pos (by simp; omega), if_pos (by omega), Int.toNat_natCast, set_mid, w64 (by omega) (by omega), w64_succ (by omega)]
    rfl
  · simp only [P.laws_markIntS.l0]
    rw [if_neg (by omega)]
theorem heldIntS_l0 (l A : List Int) (m : Int) (k : Nat) (h : A.length + l.length ≤ 1048576) (h0 : 0 ≤ m) (h1 : m + l.length ≤ 1000000000) (hk : l.length < k) : P.laws_heldIntS.l0 k (A ++ marked mkInt 1 m l) m (A.length : Int) = some (m + l.length) := by
  have := held_loop (F := fun k x m i => P.laws_heldIntS.l0 k x m i) mkInt 1 0 (fun k A x l m _ h0 h1 h => ?_) (fun k A m => ?_) l A m k h h0 (by omega) (by omega)
  · rw [show m + ((1 : Nat) : Int) * (l.length : Int) = m + l.length by omega] at this
    exact this
  · simp only [P.laws_heldIntS.l0]
    rw [if_pos (by simp; omega), if_pos (by omega), rd_nat, getD_mid, if_pos (show mkInt m x = m from rfl), w64 (by omega) (by omega), w64_succ (by omega)]
    rfl
  · simp only [P.laws_heldIntS.l0]
    rw [if_neg (by omega)]
theorem markIntS_eq (l : List Int) (m : Int) (k : Nat) (h : l.length ≤ 1048576) (h0 : 0 ≤ m) (h1 : m + l.length ≤ 1000000000) (hk : l.length < k) : P.laws_markIntS.f k l m = some (m + l.length, marked mkInt 1 m l) :=
  markIntS_l0 l [] m k (by simpa using h) h0 h1 hk
theorem heldIntS_eq (l : List Int) (m : Int) (k : Nat) (h : l.length ≤ 1048576) (h0 : 0 ≤ m) (h1 : m + l.length ≤ 1000000000) (hk : l.length < k) : P.laws_heldIntS.f k (marked mkInt 1 m l) m = some (m + l.length) :=
  heldIntS_l0 l [] m k (by simpa using h) h0 h1 hk
end Go.Proofs.Ytjffblojognlbaa

/- PumpPlaces: the plain law. Conditions: none. -/
namespace Go.Proofs.Ytjffblojognlbaa
open Go.RowKit Go.Proofs.YtjffblojognlbaaW.PrintWords
set_option linter.unusedSimpArgs false
set_option linter.unusedVariables false
theorem places_same (l : List Pt) (hin : PtsIn l) (a b c d : Int) (hc : -9223372036854775808 ≤ c ∧ c ≤ 9223372036854775807) : ∃ v : List Int × Bool, v.1.length ≤ 1048576 ∧ (v.2 = true → profB l = true ∧ relayOk a b c d = true) ∧ ∃ K, ∀ k, K ≤ k → P.impl_PumpPlaces.f k l a b c d = some v ∧ P.spec_PumpPlaces.f k l a b c d = some v := by
  by_cases hp : profB l = true
  · by_cases hr : relayOk a b c d = true
    · obtain ⟨r1, r2, r3, r4, _⟩ := relayOk_spec hr
      obtain ⟨v, hv, K, h⟩ := pumps_same (p := c) hp r1 r2 r4
      refine ⟨v, by omega, fun _ => ⟨hp, hr⟩, K + 60, fun k hk => ?_⟩
      obtain ⟨h1, h2⟩ := h k (by omega)
      simp only [P.impl_PumpPlaces.f, P.spec_PumpPlaces.f, isProfile_eq l hin k (by omega), asked_eq l a b c d k (by omega), hp, hr, isRelay_eq a b c d hc, Option.bind_some, if_true, Bool.and_self, h1, h2, and_self]
    · refine ⟨([], false), by simp, by simp, 60, fun k hk => ?_⟩
      simp only [P.impl_PumpPlaces.f, P.spec_PumpPlaces.f, isProfile_eq l hin k (by omega), asked_eq l a b c d k (by omega), hp, Bool.eq_false_iff.2 hr, isRelay_eq a b c d hc, Option.bind_some, if_true, Bool.true_and, Bool.false_eq_true, if_false, and_self]
  · refine ⟨([], false), by simp, by simp, 60, fun k hk => ?_⟩
    simp only [P.impl_PumpPlaces.f, P.spec_PumpPlaces.f, isProfile_eq l hin k (by omega), asked_eq l a b c d k (by omega), Bool.eq_false_iff.2 hp, Option.bind_some, if_true, Bool.false_and, Bool.false_eq_true, if_false, and_self]
theorem FnExactPumpPlaces.pure : FnExactPumpPlaces.Said := by
  intro l x ⟨hl, hw⟩ hx
  by_cases h : l.length ≤ 1048576
  · obtain ⟨v, hvl, _, K, hv⟩ := places_same (l.map toPt) (ptsIn_map l hw) x.f0 x.f1 x.f2 x.f3 (bound_i64 hx.2.2.1)
    obtain ⟨k, hk⟩ : ∃ k : Nat, K + l.length + v.1.length + 60 ≤ k := ⟨_, Nat.le_refl _⟩
    refine ⟨k + 3, ?_⟩
    have hm : (l.map toPt).length ≤ 1048576 := by simpa using h
    have hml : (l.map toPt).length = l.length := by simp
    simp only [P.laws_FnExactPumpPlaces.f, szPointS_eq l hl, Option.bind_some]
    rw [if_pos h, if_neg (by omega)]
    have hv3 := hv (k + 3) (by omega)
    have hv1 := hv (k + 1) (by omega)
    simp only [toPointS_eq l h (k + 3) (by omega), toRelay_eq, Option.bind_some, hv3.1, hv3.2, eqIntS_refl v.1 hvl (k + 3) (by omega), if_true, bne_self_eq_false]
    simp only [P.laws_FnExactPumpPlaces.j0, toPointS_eq l h (k + 2) (by omega), Option.bind_some, eqPointS_refl (l.map toPt) hm (k + 2) (by omega), if_true, Bool.false_eq_true, if_false, markPointS_eq (l.map toPt) hm (k + 2) (by omega), eqIntS_refl v.1 hvl (k + 2) (by omega), bne_self_eq_false]
    rw [if_neg (by omega)]
    simp only [P.laws_FnExactPumpPlaces.j1, markIntS_eq v.1 1 (k + 1) hvl (by omega) (by omega) (by omega), heldIntS_eq v.1 1 (k + 1) hvl (by omega) (by omega) (by omega), Option.bind_some, Bool.false_eq_true, if_false, if_true, toPointS_eq l h (k + 1) (by omega), toRelay_eq, hv1.1, eqIntS_refl v.1 hvl (k + 1) (by omega), bne_self_eq_false]
    rw [if_neg (by omega)]
    simp only [P.laws_FnExactPumpPlaces.j2, heldIntS_eq v.1 1 k hvl (by omega) (by omega) (by omega), Option.bind_some, Bool.false_eq_true, if_false, if_true]
    rw [if_neg (by omega)]
  · refine ⟨1, ?_⟩
    simp only [P.laws_FnExactPumpPlaces.f, szPointS_eq l hl, Option.bind_some]
    rw [if_neg h, if_pos (by omega)]
end Go.Proofs.Ytjffblojognlbaa

namespace Go.Proofs.Ytjffblojognlbaa.fnExactPumpPlaces
open Go.ChangeShapes Go.WideShapes Go.ChangeAt Go.RowKit Go.Proofs.Ytjffblojognlbaa.Opens Go.Proofs.YtjffblojognlbaaW.PrintWords
open Go.ChangeMaps (open_string shut_string)
set_option linter.unusedVariables false
theorem own : ownKnob Try.prog.godebug = none := by kernel_rfl
theorem laidOut : laidOutB Try.prog = true := by kernel_rfl
set_option maxRecDepth 100000 in
theorem lifted (os : Os) (started : os.Started) (H : Type) (enc : TypeId × Value → H) :
    ReturnsInHanded {} Try.checked os 10 .any (Rows.fnExactPumpPlacesSpec.pre6 enc Try.prog Try.f10 Rows.fnExactPumpPlacesRow.domain false) (Rows.fnExactPumpPlacesSpec.post enc Try.prog Try.f10 false true false false) := by
  refine returnsInHanded_of_change_sized (C := Try.checked) own started (by kernel_rfl) Try.func10
    (ChangeSpec.witness6 (enc := enc) (C := Try.checked) false ⟨#[], #[.slice none 0 0, .agg #[.int .i64 0, .int .i64 0, .int .i64 0, .int .i64 0]], []⟩ 8 (by kernel_rfl) (by kernel_rfl) (by kernel_rfl) (by kernel_rfl)) ?_
  intro W base args ds gs before hval0 hW hcnd hsz0 _
  have hval : ∀ (j : Nat) t v, Try.f10.params[j]? = some t → args[j]? = some v → Value.okWide Try.prog W .any base t v := hval0
  have hW' := hW
  obtain ⟨p, q, hA0, hV, rfl, hfz, hnd⟩ := hW
  have hA : DataW.TrodAll enc Try.prog W 0 (fun _ => true) true Try.f10.params.toList args.toList ds p := hA0
  rw [Try.params10] at hA hval
  obtain ⟨v0, vs0, d0, ds0, p0, q0, hargs, rfl, rfl, h0, r0⟩ := trodAll_cons hA
  obtain ⟨v1, vs1, d1, ds1, p1, q1, rfl, rfl, rfl, h1, r1⟩ := trodAll_cons r0
  obtain ⟨rfl, rfl, rfl⟩ := trodAll_nil r1
  obtain rfl : args = #[v0, v1] := by cases args; simp_all
  obtain ⟨rfl, rfl⟩ := trodVars_none hV
  have lt0 : ∀ x ∈ p0, x.block < W.heap.size := by obtain ⟨m, hm⟩ := h0; exact DataW.trod_lt m _ _ _ hm
  have k0 := h0
  obtain ⟨a0, len0, cap0, rfl⟩ := okWide_slice Try.underlying34 (hval 0 34 v0 rfl rfl)
  obtain ⟨l0, rfl, hc0, hr0, y0⟩ := opn_slice_val (opn_slice 77 Try.underlying34 (by kernel_rfl) opn77) h0
  have lt1 : ∀ x ∈ p1, x.block < W.heap.size := by obtain ⟨m, hm⟩ := h1; exact DataW.trod_lt m _ _ _ hm
  have k1 := h1
  obtain ⟨cs1, rfl, _⟩ := okWide_struct Try.underlying23 (hval 1 23 v1 rfl rfl)
  obtain ⟨f1, hf1⟩ := h1
  obtain ⟨x1, hk1, y1⟩ := opn23 _ _ _ _ _ _ hf1
  have hcs1 := P.k23_open hk1
  obtain rfl : cs1 = #[.int .i64 x1.f0, .int .i64 x1.f1, .int .i64 x1.f2, .int .i64 x1.f3] := by cases cs1; simpa [Value.cells] using hcs1
  obtain ⟨k, hp⟩ := FnExactPumpPlaces.pure l0 x1 y0 y1
  clear hA0 hval0 hsz0
  refine (P.laws_FnExactPumpPlaces.calls k a0 cap0 l0 x1.f0 x1.f1 x1.f2 x1.f3 true W hr0 hc0 hp).mono fun e W' ⟨he, bel0⟩ => ?_
  have bel : Below W.heap.size W W' := bel0
  subst he
  exact ⟨_, rfl, _, _, _, [], _, [], hW', trodAll_mk1 (shut_bool Try.underlying4 _), (trodAll_cons_mk (Below.trod laidOut (by kernel_rfl) (of_decide_eq_true (by kernel_rfl)) k0 bel lt0) (trodAll_cons_mk (Below.trod laidOut (by kernel_rfl) (of_decide_eq_true (by kernel_rfl)) k1 bel lt1) trodAll_mk0)), rfl, bel.frame _, fun h => by cases h⟩
theorem over : Rows.fnExactPumpPlacesRow.holds Try.pinned (OpenSpec.ofChange Rows.fnExactPumpPlacesSpec) :=
  OpenClaim.holds_of_wide 10 Try.f10 rfl rfl rfl rfl rfl rfl rfl ⟨rfl, rfl, rfl, rfl, rfl⟩ rfl rfl rfl rfl rfl (by kernel_rfl) Try.func10 (by kernel_rfl)
    (of_decide_eq_true (by kernel_rfl)) (by unfold Func.isWrapper; first | (rw [if_pos (by decide +kernel)]; kernel_rfl) | (rw [if_neg (by decide +kernel)]; exact ⟨rfl, rfl⟩))
    (fun os started H enc _ => lifted os started H enc)
end Go.Proofs.Ytjffblojognlbaa.fnExactPumpPlaces
namespace Go.Proofs.Ytjffblojognlbaa
/-- The statement. -/
theorem fnExactPumpPlaces_holds : Rows.FnExactPumpPlacesSaid := fnExactPumpPlaces.over
#print axioms fnExactPumpPlaces_holds
end Go.Proofs.Ytjffblojognlbaa
