/- For every input the call of FnExactIsStronger returns true, and its arguments read afterwards as before. Conditions: none. -/
import Derived.Test.YtlfhedmmlfpekaaWWords
import Derived.Test.YtlfhedmmlfpekaaPx0
import Derived.Test.YtlfhedmmlfpekaaPx46
import Derived.Test.YtlfhedmmlfpekaaWNEv
import Derived.Test.YtlfhedmmlfpekaaWMore
import Derived.Test.YtlfhedmmlfpekaaPx1
import Derived.Test.YtlfhedmmlfpekaaPx9
import Derived.Test.YtlfhedmmlfpekaaPx16
import Derived.Test.YtlfhedmmlfpekaaPx3
import Derived.Test.YtlfhedmmlfpekaaPx41
import Derived.Test.YtlfhedmmlfpekaaPx42
import Derived.Test.YtlfhedmmlfpekaaPx2
import Derived.Test.YtlfhedmmlfpekaaPx7
import Derived.Test.YtlfhedmmlfpekaaPx14
import Derived.Test.YtlfhedmmlfpekaaPx4
import Derived.Test.YtlfhedmmlfpekaaPx11
import Derived.Test.YtlfhedmmlfpekaaPx18
import Derived.Test.YtlfhedmmlfpekaaPx23
import Derived.Test.YtlfhedmmlfpekaaPx21
import Derived.Test.YtlfhedmmlfpekaaPx26
import Derived.Test.YtlfhedmmlfpekaaPx29
import Derived.Test.YtlfhedmmlfpekaaPx27
import Derived.Test.YtlfhedmmlfpekaaPx30
import Derived.Test.YtlfhedmmlfpekaaRows
import Derived.Deep.Slices
import Derived.WideShapes
import Derived.ChangeSame
import Derived.DataReads
import Derived.KernelRfl
import Derived.WalkKit
import Derived.ProofKit
import Derived.OpenShut
import Derived.ShutString
import Derived.ChangeOld
import Derived.Below
import Derived.SizedLaws
/- What an argument that reads as data is, as the printed texts' kinds say it: generic over the type. Conditions: none of our own. -/
namespace Go.Proofs.Ytlfhedmmlfpekaa.Opens
open Go.RowKit Go.Proofs.YtlfhedmmlfpekaaW.PrintWords
open Go.WideShapes

/-- Data of type T is of kind d, and Q holds of it. -/
def Opn {α : Type} (P : Program) (T : TypeId) (d : Kd α) (Q : α → Prop) : Prop :=
  ∀ (H : Type) (enc : TypeId × Value → H) (W : World) (fuel : Nat) (cs : List Value) (x : DataW H × List MemPlace), DataW.trod enc P W 0 (fun _ => true) true fuel T cs = some x → ∃ a, d.K W a cs ∧ Q a

theorem opn_int {P : Program} {T : TypeId} {k : IntKind} (hu : P.underlying T = some (.int k)) : Opn P T (Kd.int k) (fun a => (Lit.int k a).wf = true) := by
  intro H enc W fuel cs x h
  cases fuel with
  | zero => simp [DataW.trod] at h
  | succ n =>
    simp only [DataW.trod, hu] at h
    split at h
    all_goals first | (cases h; done) | skip
    all_goals simp_all [Kd.int, Kd.scalar]

theorem opn_bool {P : Program} {T : TypeId} (hu : P.underlying T = some .bool) : Opn P T Kd.bool (fun _ => True) := by
  intro H enc W fuel cs x h
  cases fuel with
  | zero => simp [DataW.trod] at h
  | succ n =>
    simp only [DataW.trod, hu] at h
    split at h
    all_goals first | (cases h; done) | skip
    all_goals simp_all [Kd.bool, Kd.scalar]

theorem opn_string {P : Program} {T : TypeId} (hu : P.underlying T = some .string) : Opn P T Kd.string (fun s => s.size ≤ maxLen) := by
  intro H enc W fuel cs x h
  cases fuel with
  | zero => simp [DataW.trod] at h
  | succ n =>
    simp only [DataW.trod, hu] at h
    split at h
    all_goals first | (cases h; done) | skip
    all_goals simp_all [Kd.string, Kd.scalar]


/-- Some fields of a struct, from number i and cell off on. -/
def OpnFs {α : Type} (P : Program) (fs : Array Field) (i off : Nat) (d : Kd α) (Q : α → Prop) : Prop :=
  ∀ (H : Type) (enc : TypeId × Value → H) (W : World) (n : Nat) (cs : List Value), (∀ j f, i ≤ j → fs[j]? = some f → ∃ y, DataW.trod enc P W 0 (fun _ => true) true n f.type ((cs.drop f.offset).take (P.cellsOf f.type)) = some y) →
    cs.length = off + d.sz → ∃ a, d.K W a (cs.drop off) ∧ Q a

theorem opnFs_last {α : Type} {P : Program} {fs : Array Field} {i off : Nat} {d : Kd α} {Q : α → Prop} (f : Field) (hf : fs[i]? = some f) (ho : f.offset = off) (hs : P.cellsOf f.type = d.sz) (h : Opn P f.type d Q) : OpnFs P fs i off d Q := by
  intro H enc W n cs g hl
  obtain ⟨y, hy⟩ := g i f (Nat.le_refl _) hf
  rw [ho, hs, List.take_of_length_le (by rw [List.length_drop]; omega)] at hy
  exact h H enc W n _ y hy

theorem opnFs_cons {α β : Type} {P : Program} {fs : Array Field} {i off : Nat} {d : Kd α} {d2 : Kd β} {Q : α → Prop} {Q2 : β → Prop} (f : Field) (hf : fs[i]? = some f) (ho : f.offset = off) (hs : P.cellsOf f.type = d.sz) (h : Opn P f.type d Q)
    (h2 : OpnFs P fs (i + 1) (off + d.sz) d2 Q2) : OpnFs P fs i off (Kd.pair d d2) (fun p => Q p.1 ∧ Q2 p.2) := by
  intro H enc W n cs g hl
  obtain ⟨y, hy⟩ := g i f (Nat.le_refl _) hf
  rw [ho, hs] at hy
  have hl' : cs.length = off + (d.sz + d2.sz) := hl
  obtain ⟨a, ha, qa⟩ := h H enc W n _ y hy
  obtain ⟨b, hb, qb⟩ := h2 H enc W n cs (fun j f hj => g j f (by omega)) (by omega)
  refine ⟨(a, b), ⟨(cs.drop off).take d.sz, cs.drop (off + d.sz), ?_, ha, hb⟩, qa, qb⟩
  rw [← List.drop_drop, List.take_append_drop]

theorem opn_struct {α β : Type} {P : Program} {T : TypeId} {fs : Array Field} {d : Kd α} {Q : α → Prop} {f : β → α} (g : α → β) (hg : ∀ a, f (g a) = a) (hu : P.underlying T = some (.struct fs)) (hc : P.cellsOf T = d.sz) (h : OpnFs P fs 0 0 d Q) :
    Opn P T (Kd.iso d f) (fun b => Q (f b)) := by
  intro H enc W fuel cs x hx
  obtain ⟨xs, n, _, _, hl, hlen, hf⟩ := DataW.trod_struct hu hx
  obtain ⟨a, ha, qa⟩ := h H enc W n cs (fun j f _ hj => by
    have := hf j f hj
    have hj2 : j < xs.length := by
      have := (Array.getElem?_eq_some_iff.1 hj).1
      omega
    rw [List.getElem?_eq_getElem hj2] at this
    exact ⟨_, this⟩) (by rw [hl, hc]; omega)
  refine ⟨g a, ?_, ?_⟩
  · show d.K W (f (g a)) cs
    rw [hg]
    simpa using ha
  · show Q (f (g a))
    rw [hg]
    exact qa

theorem cells_each {w : World} {a : Addr} {n : Nat} {cs : List Value} (h : w.cells? 0 a n = some cs) : cs.length = n ∧ ∀ i u, cs[i]? = some u → w.cell? (a.add i) = some u := by
  simp only [World.cells?, Nat.zero_le, if_true] at h
  have hl : cs.length = n := by have := mapM_some_length h; simpa using this
  refine ⟨hl, fun i u hu => ?_⟩
  have hi : i < n := by
    have := (List.getElem?_eq_some_iff.1 hu).1
    omega
  rw [← hu]
  exact mapM_some_get h i i (by rw [List.getElem?_range hi])

theorem opn_slice {α : Type} {P : Program} {T e : TypeId} {d : Kd α} {Q : α → Prop} (E : Nat) (hu : P.underlying T = some (.slice e)) (hc : P.cellsOf e = d.sz) (he : Opn P e d Q) :
    Opn P T (Kd.slice E d) (fun l => l.length ≤ maxLen ∧ ∀ x ∈ l, Q x) := by
  intro H enc W fuel cs x hx
  rcases Go.Deep.open_slice hu hx with ⟨rfl, _⟩ | ⟨a, len, cap, m, n, D, Pl, rfl, _, hlc, hcm, hm, _, hel⟩
  · exact ⟨[], ⟨none, 0, rfl, Nat.le_refl _, rfl, by simp, fun h => absurd h (by simp)⟩, by simp, by simp⟩
  have hel' : ∀ i, i < len → ∃ y, (∃ c, W.cells? 0 (a.add (i * P.cellsOf e)) (P.cellsOf e) = some c ∧ d.K W y c) ∧ Q y := by
    intro i hi
    obtain ⟨c, h1, h2⟩ := hel i (by rw [hm]; simp; omega)
    obtain ⟨y, hy, hq⟩ := he H enc W n c _ h2
    exact ⟨y, ⟨c, h1, hy⟩, hq⟩
  have hex : ∃ l : List α, l.length = len ∧ ∀ i y, l[i]? = some y → (∃ c, W.cells? 0 (a.add (i * P.cellsOf e)) (P.cellsOf e) = some c ∧ d.K W y c) ∧ Q y := by
    revert hel'
    generalize len = q
    intro hel'
    clear hx hel
    induction q with
    | zero => exact ⟨[], rfl, by simp⟩
    | succ k ih =>
      obtain ⟨l, hl, hp⟩ := ih (fun i hi => hel' i (by omega))
      obtain ⟨y, hy⟩ := hel' k (by omega)
      refine ⟨l ++ [y], by simp [hl], fun i z hz => ?_⟩
      by_cases hi : i < l.length
      · rw [List.getElem?_append_left hi] at hz
        exact hp i z hz
      · have : i = k := by
          have := (List.getElem?_eq_some_iff.1 hz).1
          simp at this
          omega
        subst this
        rw [List.getElem?_append_right (by omega), hl] at hz
        simp at hz
        subst hz
        exact hy
  obtain ⟨l, hl, hp⟩ := hex
  refine ⟨l, ⟨some a, cap, by rw [hl], by omega, rfl, ?_, fun _ => ⟨a, rfl, ?_⟩⟩, by rw [hl]; omega, ?_⟩
  · rw [hl]
    simp only [maxLen] at hcm
    omega
  · intro j y hj
    obtain ⟨⟨c, h1, h2⟩, _⟩ := hp j y hj
    obtain ⟨h3, h4⟩ := cells_each h1
    refine ⟨c, by rw [h3, hc], h2, fun i u hi => ?_⟩
    rw [← hc, ← Go.Deep.add_add]
    exact h4 i u hi
  · intro y hy
    obtain ⟨i, hi, rfl⟩ := List.getElem_of_mem hy
    exact (hp i _ (List.getElem?_eq_getElem hi)).2

/-- A slice that is an argument. -/
theorem opn_slice_val {α : Type} {H : Type} {enc : TypeId × Value → H} {P : Program} {W : World} {T : TypeId} {E : Nat} {d : Kd α} {Q : List α → Prop} (h : Opn P T (Kd.slice E d) Q) {a : Option Addr} {len cap : Nat} {x : DataW H} {ps : List MemPlace}
    (ht : DataW.Trod enc P W 0 (fun _ => true) true T (.slice a len cap) x ps) : ∃ l : List α, len = l.length ∧ l.length ≤ cap ∧ d.C W a l.length l ∧ Q l := by
  obtain ⟨fuel, hf⟩ := ht
  obtain ⟨l, ⟨A, c, hcs, hl, hr⟩, hq⟩ := h H enc W fuel _ _ hf
  simp [Value.cells] at hcs
  obtain ⟨rfl, rfl, rfl⟩ := hcs
  exact ⟨l, rfl, hl, hr, hq⟩

end Go.Proofs.Ytlfhedmmlfpekaa.Opens

/- What each argument type of these statements reads as. Conditions: none of our own. -/
namespace Go.Proofs.Ytlfhedmmlfpekaa
open Go.RowKit Go.Proofs.YtlfhedmmlfpekaaW.PrintWords Go.Proofs.Ytlfhedmmlfpekaa.Opens

namespace P
/-! #### struct type 23 -/
structure S23 where
  f0 : Int
  f1 : Int
  f2 : Int
def z23 : S23 := ⟨(0 : Int), (0 : Int), (0 : Int)⟩
def k23 : Kd S23 := Kd.iso (Kd.pair (Kd.int .i64) (Kd.pair (Kd.int .i64) (Kd.int .i64))) (fun x : S23 => (x.f0, x.f1, x.f2))
theorem k23_open {w : World} {x : S23} {cs : List Value} (h : k23.K w x cs) : cs = [.int .i64 x.f0, .int .i64 x.f1, .int .i64 x.f2] := by
  obtain ⟨_, _, rfl, rfl, ⟨_, _, rfl, rfl, rfl⟩⟩ := h
  exact rfl
theorem k23_openM {w : World} {base : Nat} {ok : Nat → Prop} {x : S23} {cs : List Value} (h : k23.M w base ok x cs) : cs = [.int .i64 x.f0, .int .i64 x.f1, .int .i64 x.f2] := by
  obtain ⟨_, _, rfl, rfl, ⟨_, _, rfl, rfl, rfl⟩⟩ := h
  exact rfl
theorem k23_mk (w : World) (x : S23)  : k23.K w x [.int .i64 x.f0, .int .i64 x.f1, .int .i64 x.f2] := ⟨[.int .i64 x.f0], [.int .i64 x.f1, .int .i64 x.f2], rfl, rfl, ⟨[.int .i64 x.f1], [.int .i64 x.f2], rfl, rfl, rfl⟩⟩
theorem k23_mkM (w : World) (base : Nat) (ok : Nat → Prop) (x : S23)  : k23.M w base ok x [.int .i64 x.f0, .int .i64 x.f1, .int .i64 x.f2] := ⟨[.int .i64 x.f0], [.int .i64 x.f1, .int .i64 x.f2], rfl, rfl, ⟨[.int .i64 x.f1], [.int .i64 x.f2], rfl, rfl, rfl⟩⟩
def rd_T23 (xs : List S23) (i : Int) : S23 := xs.getD i.toNat z23
theorem at_T23 {w : World} {A : Option Addr} {n : Nat} {xs : List S23} (h : Kd.C k23 w A n xs) (i : Int) (h0 : 0 ≤ i) (h1 : i < n) : ∃ ad , A = some ad ∧ w.cell? (ad.add (i.toNat * 3)) = some (.int .i64 (rd_T23 xs i).f0) ∧ w.cell? ⟨(ad.add (i.toNat * 3)).block, (ad.add (i.toNat * 3)).off + 1, none⟩ = some (.int .i64 (rd_T23 xs i).f1) ∧ w.cell? ⟨(ad.add (i.toNat * 3)).block, (ad.add (i.toNat * 3)).off + 2, none⟩ = some (.int .i64 (rd_T23 xs i).f2) := by
  obtain ⟨ad, c, e, _, hK, hc0⟩ := Kd.C_get h z23 i h0 h1
  have hc : ∀ j u, c[j]? = some u → w.cell? (ad.add (i.toNat * 3 + j)) = some u := hc0
  obtain rfl := k23_open hK
  exact ⟨ad, e, hc 0 _ rfl, by rw [← add_field _ _ 1 (by omega)]; exact hc 1 _ rfl, by rw [← add_field _ _ 2 (by omega)]; exact hc 2 _ rfl⟩

end P
/-- loop.example/g01020/laws.Case: what holds of its fields. -/
def Wf23 (x : P.S23) : Prop := ((Lit.int .i64 x.f0).wf = true) ∧ ((Lit.int .i64 x.f1).wf = true) ∧ ((Lit.int .i64 x.f2).wf = true)
theorem opn23 : Opn Try.prog 23 P.k23 Wf23 := opn_struct (f := (fun x : P.S23 => (x.f0, x.f1, x.f2))) (fun a => (⟨a.1, a.2.1, a.2.2⟩ : P.S23)) (fun _ => rfl) Try.underlying23 (by kernel_rfl) (opnFs_cons _ rfl rfl (by kernel_rfl) (opn_int Try.underlying3) (opnFs_cons _ rfl rfl (by kernel_rfl) (opn_int Try.underlying3) (opnFs_last _ rfl rfl (by kernel_rfl) (opn_int Try.underlying3))))
/-- loop.example/g01020/laws.Row: what holds of its fields. -/
def Wf61 (x : P.S61) : Prop := ((Lit.int .i64 x.f0).wf = true) ∧ ((Lit.int .i64 x.f1).wf = true) ∧ ((Lit.int .i64 x.f2).wf = true) ∧ ((Lit.int .i64 x.f3).wf = true) ∧ ((Lit.int .i64 x.f4).wf = true) ∧ ((Lit.int .i64 x.f5).wf = true) ∧ (x.f6.length ≤ maxLen ∧ ∀ y ∈ x.f6, (Lit.int .i64 y).wf = true)
theorem opn61 : Opn Try.prog 61 P.k61 Wf61 := opn_struct (f := (fun x : P.S61 => (x.f0, x.f1, x.f2, x.f3, x.f4, x.f5, x.f6))) (fun a => (⟨a.1, a.2.1, a.2.2.1, a.2.2.2.1, a.2.2.2.2.1, a.2.2.2.2.2.1, a.2.2.2.2.2.2⟩ : P.S61)) (fun _ => rfl) Try.underlying61 (by kernel_rfl) (opnFs_cons _ rfl rfl (by kernel_rfl) (opn_int Try.underlying3) (opnFs_cons _ rfl rfl (by kernel_rfl) (opn_int Try.underlying3) (opnFs_cons _ rfl rfl (by kernel_rfl) (opn_int Try.underlying3) (opnFs_cons _ rfl rfl (by kernel_rfl) (opn_int Try.underlying3) (opnFs_cons _ rfl rfl (by kernel_rfl) (opn_int Try.underlying3) (opnFs_cons _ rfl rfl (by kernel_rfl) (opn_int Try.underlying3) (opnFs_last _ rfl rfl (by kernel_rfl) (opn_slice 3 Try.underlying43 (by kernel_rfl) (opn_int Try.underlying3)))))))))
end Go.Proofs.Ytlfhedmmlfpekaa

/- The pure statement of FnExactIsStronger. -/
namespace Go.Proofs.Ytlfhedmmlfpekaa
open Go.RowKit Go.Proofs.YtlfhedmmlfpekaaW.PrintWords
/-- What is left of the statement: numbers and lists alone. -/
def FnExactIsStronger.Said : Prop := ∀ (l0 : List P.S61) (l1 : List P.S61), (l0.length ≤ maxLen ∧ ∀ y ∈ l0, Wf61 y) → (l1.length ≤ maxLen ∧ ∀ y ∈ l1, Wf61 y) → ∃ k, P.laws_FnExactIsStronger.f k l0 l1 = some true
end Go.Proofs.Ytlfhedmmlfpekaa

/- Plain lemmas on rounds, wraps, loops and lists, with no program in sight. -/
namespace Go.Proofs.Ytlfhedmmlfpekaa
open Go.RowKit Go.Proofs.YtlfhedmmlfpekaaW.PrintWords
set_option linter.unusedSimpArgs false
set_option linter.unusedVariables false

theorem bound_i64 {a : Int} (h : (Lit.int .i64 a).wf = true) : -9223372036854775808 ≤ a ∧ a ≤ 9223372036854775807 := by
  simp only [Lit.wf, IntKind.min, IntKind.max, IntKind.signed, IntKind.bits, Bool.and_eq_true, decide_eq_true_eq, if_true] at h
  omega
theorem w64 {x : Int} (h0 : -9223372036854775808 ≤ x) (h1 : x ≤ 9223372036854775807) : wrap64 x = x := by
  unfold wrap64
  omega
theorem w64_succ {i : Nat} (h : i < 4611686018427387904) : wrap64 ((i : Int) + 1) = ((i + 1 : Nat) : Int) := by
  unfold wrap64
  omega
theorem some_dec {p q : Prop} [Decidable p] [Decidable q] (h : p ↔ q) : some (decide p) = some (decide q) := by simp [h]
theorem some_t {q : Prop} [Decidable q] (h : q) : some true = some (decide q) := by simp [h]
theorem some_f {q : Prop} [Decidable q] (h : ¬ q) : some false = some (decide q) := by simp [h]
theorem bind_if {α : Type} {c : Prop} [Decidable c] (f : Bool → Option α) : (some (decide c)).bind f = if c then f true else f false := by
  by_cases h : c <;> simp [h]
theorem bind_ifb {α : Type} (c : Bool) (f : Bool → Option α) : (some c).bind f = if c = true then f true else f false := by
  cases c <;> simp

/-! ### A loop with rounds: what it comes to -/
section
variable {σ ρ : Type}
def runFrom (step : Nat → σ → σ ⊕ ρ) (fin : σ → ρ) : Nat → Nat → σ → ρ
  | 0, _, s => fin s
  | d + 1, i, s => match step i s with
    | .inl s' => runFrom step fin d (i + 1) s'
    | .inr r => r
theorem run_loop {F : Nat → σ → Int → Option ρ} {n : Nat} (step : Nat → σ → σ ⊕ ρ) (fin : σ → ρ) (Inv : Nat → σ → Prop)
    (hs : ∀ k i s, i < n → Inv i s → F (k + 1) s (i : Int) = match step i s with | .inl s' => F k s' ((i + 1 : Nat) : Int) | .inr r => some r)
    (hi : ∀ i s s', i < n → Inv i s → step i s = .inl s' → Inv (i + 1) s')
    (he : ∀ k s, Inv n s → F (k + 1) s (n : Int) = some (fin s)) :
    ∀ (d i : Nat) (s : σ) (k : Nat), i + d = n → d < k → Inv i s → F k s (i : Int) = some (runFrom step fin d i s) := by
  intro d
  induction d with
  | zero =>
    intro i s k h hk hI
    obtain ⟨k, rfl⟩ : ∃ m, k = m + 1 := ⟨k - 1, by omega⟩
    obtain rfl : i = n := by omega
    exact he k s hI
  | succ d ih =>
    intro i s k h hk hI
    obtain ⟨k, rfl⟩ : ∃ m, k = m + 1 := ⟨k - 1, by omega⟩
    rw [hs k i s (by omega) hI]
    simp only [runFrom]
    cases hst : step i s with
    | inl s' => exact ih (i + 1) s' k (by omega) (by omega) (hi i s s' (by omega) hI hst)
    | inr r => rfl
end
/-- All from i on, d of them. -/
def allFrom (p : Nat → Bool) : Nat → Nat → Bool
  | 0, _ => true
  | d + 1, i => p i && allFrom p d (i + 1)
theorem allFrom_iff (p : Nat → Bool) : ∀ (d i : Nat), allFrom p d i = true ↔ ∀ j, i ≤ j → j < i + d → p j = true
  | 0, i => by simp [allFrom]; intro j h1 h2; omega
  | d + 1, i => by
    simp only [allFrom, Bool.and_eq_true, allFrom_iff p d (i + 1)]
    constructor
    · intro ⟨h, hh⟩ j h1 h2
      by_cases e : j = i
      · rw [e]; exact h
      · exact hh j (by omega) (by omega)
    · intro h
      exact ⟨h i (Nat.le_refl _) (by omega), fun j h1 h2 => h j (by omega) (by omega)⟩
theorem allFrom_congr {p q : Nat → Bool} : ∀ (d i : Nat), (∀ j, i ≤ j → j < i + d → p j = q j) → allFrom p d i = allFrom q d i
  | 0, _, _ => rfl
  | d + 1, i, h => by simp only [allFrom]; rw [h i (Nat.le_refl _) (by omega), allFrom_congr d (i + 1) (fun j h1 h2 => h j (by omega) (by omega))]
/-- A loop that goes on while p holds, else says false. -/
theorem all_loop {F : Nat → Int → Option Bool} {n : Nat} (p : Nat → Bool)
    (hs : ∀ k i, i < n → (∀ j, j < i → p j = true) → F (k + 1) (i : Int) = if p i = true then F k ((i + 1 : Nat) : Int) else some false)
    (he : ∀ k, F (k + 1) (n : Int) = some true) :
    ∀ (d i : Nat) (k : Nat), i + d = n → d < k → (∀ j, j < i → p j = true) → F k (i : Int) = some (allFrom p d i) := by
  intro d
  induction d with
  | zero =>
    intro i k h hk hI
    obtain ⟨k, rfl⟩ : ∃ m, k = m + 1 := ⟨k - 1, by omega⟩
    obtain rfl : i = n := by omega
    exact he k
  | succ d ih =>
    intro i k h hk hI
    obtain ⟨k, rfl⟩ : ∃ m, k = m + 1 := ⟨k - 1, by omega⟩
    rw [hs k i (by omega) hI]
    simp only [allFrom]
    by_cases hp : p i = true
    · rw [if_pos hp, hp, Bool.true_and]
      refine ih (i + 1) k (by omega) (by omega) (fun j hj => ?_)
      by_cases e : j = i
      · rw [e]; exact hp
      · exact hI j (by omega)
    · rw [if_neg hp]
      simp [Bool.eq_false_iff.2 hp]

/-! ### Lists -/
theorem fill_set {α : Type} (A : List α) (d : Nat) (z v : α) : (A ++ List.replicate (d + 1) z).set A.length v = (A ++ [v]) ++ List.replicate d z := by
  rw [List.set_append_right _ _ (by omega), Nat.sub_self, List.replicate_succ, List.set_cons_zero, List.append_assoc]
  rfl
theorem take_map_succ {α β : Type} (f : α → β) (l : List α) (z : α) (i : Nat) (h : i < l.length) : (l.take (i + 1)).map f = (l.take i).map f ++ [f (l.getD i z)] := by
  rw [List.take_succ_eq_append_getElem h, List.map_append]
  simp [List.getD_eq_getElem?_getD, List.getElem?_eq_getElem h]
theorem set_split {α : Type} (l : List α) (i : Nat) (h : i < l.length) (v : α) : l.set i v = l.take i ++ v :: l.drop (i + 1) := List.set_eq_take_append_cons_drop .. |>.trans (by rw [if_pos h])

/-- A loop that goes on while p holds, else says false; behind the last one it says b. -/
theorem all_loop_end {F : Nat → Int → Option Bool} {n : Nat} (p : Nat → Bool) (b : Bool) (K : Nat)
    (hs : ∀ k i, K ≤ k → i < n → (∀ j, j < i → p j = true) → F (k + 1) (i : Int) = if p i = true then F k ((i + 1 : Nat) : Int) else some false)
    (he : ∀ k, K ≤ k → (∀ j, j < n → p j = true) → F (k + 1) (n : Int) = some b) :
    ∀ (d i : Nat) (k : Nat), i + d = n → K + d < k → (∀ j, j < i → p j = true) → F k (i : Int) = some (allFrom p d i && b) := by
  intro d
  induction d with
  | zero =>
    intro i k h hk hI
    obtain ⟨k, rfl⟩ : ∃ m, k = m + 1 := ⟨k - 1, by omega⟩
    obtain rfl : i = n := by omega
    rw [he k (by omega) hI]
    simp [allFrom]
  | succ d ih =>
    intro i k h hk hI
    obtain ⟨k, rfl⟩ : ∃ m, k = m + 1 := ⟨k - 1, by omega⟩
    rw [hs k i (by omega) (by omega) hI]
    simp only [allFrom]
    by_cases hp : p i = true
    · rw [if_pos hp, hp, Bool.true_and]
      refine ih (i + 1) k (by omega) (by omega) (fun j hj => ?_)
      by_cases e : j = i
      · rw [e]; exact hp
      · exact hI j (by omega)
    · rw [if_neg hp]
      simp [Bool.eq_false_iff.2 hp]
theorem allFrom_true : ∀ d i, allFrom (fun _ => true) d i = true
  | 0, _ => rfl
  | d + 1, i => by simp [allFrom, allFrom_true d]

/-! ### A copy, element by element; marks, and their test -/
theorem copy_loop {α β : Type} (F : Nat → List β → Int → Option (List β)) (l : List α) (za : α) (conv : α → β) (z : β) (K : Nat)
    (hs : ∀ k i d (B : List β), K ≤ k → i + d + 1 = l.length → B.length = i → F (k + 1) (B ++ List.replicate (d + 1) z) (i : Int) = F k ((B ++ [conv (l.getD i za)]) ++ List.replicate d z) ((i + 1 : Nat) : Int))
    (he : ∀ k (B : List β), K ≤ k → B.length = l.length → F (k + 1) B (l.length : Int) = some B) :
    ∀ (d i k : Nat), i + d = l.length → K + d < k → F k ((l.take i).map conv ++ List.replicate d z) (i : Int) = some (l.map conv) := by
  intro d
  induction d with
  | zero =>
    intro i k h hk
    obtain ⟨k, rfl⟩ : ∃ m, k = m + 1 := ⟨k - 1, by omega⟩
    obtain rfl : i = l.length := by omega
    rw [List.take_length, List.replicate_zero, List.append_nil]
    exact he k _ (by omega) (by simp)
  | succ d ih =>
    intro i k h hk
    obtain ⟨k, rfl⟩ : ∃ m, k = m + 1 := ⟨k - 1, by omega⟩
    rw [hs k i d _ (by omega) (by omega) (by simp; omega), ← take_map_succ conv l za i (by omega)]
    exact ih (i + 1) k (by omega) (by omega)
section
variable {α : Type}
def marked (mk : Int → α → α) (w : Int) : Int → List α → List α
  | _, [] => []
  | m, x :: l => mk m x :: marked mk w (m + w) l
theorem marked_length (mk : Int → α → α) (w : Int) : ∀ (l : List α) (m : Int), (marked mk w m l).length = l.length
  | [], _ => rfl
  | x :: l, m => by show (marked mk w (m + w) l).length + 1 = l.length + 1; rw [marked_length mk w l]
theorem mark_loop (F : Nat → List α → Int → Int → Option (Int × List α)) (mk : Int → α → α) (w : Nat) (K : Nat)
    (hs : ∀ k (A : List α) (x : α) (l : List α) (m : Int), K ≤ k → 0 ≤ m → m + w ≤ 1000000000 → A.length + l.length < 1048577 → F (k + 1) (A ++ x :: l) m (A.length : Int) = F k (A ++ mk m x :: l) (m + w) ((A.length + 1 : Nat) : Int))
    (he : ∀ k (A : List α) (m : Int), F (k + 1) A m (A.length : Int) = some (m, A)) :
    ∀ (l A : List α) (m : Int) (k : Nat), A.length + l.length ≤ 1048576 → 0 ≤ m → m + w * l.length ≤ 1000000000 → K + l.length < k → F k (A ++ l) m (A.length : Int) = some (m + w * l.length, A ++ marked mk w m l) := by
  intro l
  induction l with
  | nil =>
    intro A m k h h0 h1 hk
    obtain ⟨k, rfl⟩ : ∃ m, k = m + 1 := ⟨k - 1, by omega⟩
    rw [List.append_nil, he]
    simp [marked]
  | cons x l ih =>
    intro A m k h h0 h1 hk
    simp only [List.length_cons] at h h1 hk
    have hw : (w : Int) * ((l.length + 1 : Nat) : Int) = w * (l.length : Int) + w := by rw [Int.natCast_add, Int.mul_add]; simp
    have hn : 0 ≤ (w : Int) * (l.length : Int) := Int.mul_nonneg (by omega) (by omega)
    obtain ⟨k, rfl⟩ : ∃ m, k = m + 1 := ⟨k - 1, by omega⟩
    rw [hs k A x l m (by omega) h0 (by omega) (by omega)]
    have := ih (A ++ [mk m x]) (m + w) k (by simp; omega) (by omega) (by omega) (by omega)
    rw [List.length_append, List.length_singleton, List.append_assoc, List.singleton_append] at this
    rw [this, List.append_assoc, List.singleton_append, List.length_cons, hw, Int.add_assoc, Int.add_comm (w : Int)]
    rfl
theorem held_loop (F : Nat → List α → Int → Int → Option Int) (mk : Int → α → α) (w : Nat) (K : Nat)
    (hs : ∀ k (A : List α) (x : α) (l : List α) (m : Int), K ≤ k → 0 ≤ m → m + w ≤ 1000000000 → A.length + l.length < 1048577 → F (k + 1) (A ++ mk m x :: l) m (A.length : Int) = F k (A ++ mk m x :: l) (m + w) ((A.length + 1 : Nat) : Int))
    (he : ∀ k (A : List α) (m : Int), F (k + 1) A m (A.length : Int) = some m) :
    ∀ (l A : List α) (m : Int) (k : Nat), A.length + l.length ≤ 1048576 → 0 ≤ m → m + w * l.length ≤ 1000000000 → K + l.length < k → F k (A ++ marked mk w m l) m (A.length : Int) = some (m + w * l.length) := by
  intro l
  induction l with
  | nil =>
    intro A m k h h0 h1 hk
    obtain ⟨k, rfl⟩ : ∃ m, k = m + 1 := ⟨k - 1, by omega⟩
    have hm : marked mk w m [] = [] := rfl
    rw [hm, List.append_nil, he]
    simp
  | cons x l ih =>
    intro A m k h h0 h1 hk
    simp only [List.length_cons] at h h1 hk
    have hw : (w : Int) * ((l.length + 1 : Nat) : Int) = w * (l.length : Int) + w := by rw [Int.natCast_add, Int.mul_add]; simp
    have hn : 0 ≤ (w : Int) * (l.length : Int) := Int.mul_nonneg (by omega) (by omega)
    obtain ⟨k, rfl⟩ : ∃ m, k = m + 1 := ⟨k - 1, by omega⟩
    have hm : marked mk w m (x :: l) = mk m x :: marked mk w (m + w) l := rfl
    rw [hm, hs k A x _ m (by omega) h0 (by omega) (by rw [marked_length]; omega)]
    have := ih (A ++ [mk m x]) (m + w) k (by simp; omega) (by omega) (by omega) (by omega)
    rw [List.length_append, List.length_singleton, List.append_assoc, List.singleton_append] at this
    rw [this, List.length_cons, hw, Int.add_assoc, Int.add_comm (w : Int)]
end
theorem set_mid {α : Type} (A : List α) (v u : α) (l : List α) : (A ++ v :: l).set A.length u = A ++ u :: l := by
  rw [List.set_append_right _ _ (by omega), Nat.sub_self, List.set_cons_zero]
theorem getD_mid {α : Type} (A : List α) (v : α) (l : List α) (z : α) : (A ++ v :: l).getD A.length z = v := by
  simp [List.getD_eq_getElem?_getD]
end Go.Proofs.Ytlfhedmmlfpekaa

/- 'inside' on both sides. Conditions: none. -/
namespace Go.Proofs.Ytlfhedmmlfpekaa
open Go.RowKit Go.Proofs.YtlfhedmmlfpekaaW.PrintWords
theorem inside_eq (a b c : Int) : P.impl_inside.f a b c = some (decide (b ≤ a ∧ a ≤ c)) := by
  unfold P.impl_inside.f
  split
  · exact some_dec (by omega)
  · exact some_f (by omega)
theorem l1In_eq (a b c : Int) : P.spec_l1In.f a b c = some (decide (b ≤ a ∧ a ≤ c)) := by
  unfold P.spec_l1In.f
  split
  · exact some_dec (by omega)
  · exact some_f (by omega)
theorem inside_l1In (a b c : Int) : P.impl_inside.f a b c = P.spec_l1In.f a b c := by rw [inside_eq, l1In_eq]
theorem w64_pred {i : Nat} (h : 0 < i) (hh : i < 4611686018427387904) : wrap64 ((i : Int) - 1) = ((i - 1 : Nat) : Int) := by
  unfold wrap64
  omega
end Go.Proofs.Ytlfhedmmlfpekaa

/- Slices of whole numbers: copy, equality, size, marks. Conditions: none beyond those of each lemma. -/
namespace Go.Proofs.Ytlfhedmmlfpekaa
open Go.RowKit Go.Proofs.YtlfhedmmlfpekaaW.PrintWords
set_option linter.unusedSimpArgs false
set_option linter.unusedVariables false
theorem rd_nat (l : List Int) (i : Nat) : rd l (i : Int) = l.getD i 0 := by simp [rd]
theorem toIntS_eq (l : List Int) (hl : l.length ≤ 1048576) (k : Nat) (hk : l.length < k) : P.laws_toIntS.f k l = some l := by
  simp only [P.laws_toIntS.f]
  rw [if_pos (by omega), if_pos (by omega)]
  have := copy_loop (F := fun k B i => P.laws_toIntS.l0 k l B i) l 0 id 0 0 (fun k i d B _ h hB => ?_) (fun k B _ hB => ?_) l.length 0 k (by omega) (by omega)
  · rw [List.take_zero, List.map_nil, List.nil_append, List.map_id] at this
    exact this
  · simp only [P.laws_toIntS.l0]
    have hf := fill_set B d 0 (l.getD i 0)
    rw [hB] at hf
    rw [if_pos (by omega), if_pos (by omega), if_pos (by simp; omega), w64_succ (by omega), rd_nat, Int.toNat_natCast, hf]
    rfl
  · simp only [P.laws_toIntS.l0]
    rw [if_neg (by omega)]
theorem eqIntS_refl (l : List Int) (hl : l.length ≤ 1048576) (k : Nat) (hk : l.length < k) : P.laws_eqIntS.f k l l = some true := by
  simp only [P.laws_eqIntS.f, if_true]
  have := all_loop_end (F := fun k i => P.laws_eqIntS.l0 k l l i) (n := l.length) (fun _ => true) true 0 (fun k i _ hi _ => ?_) (fun k _ _ => ?_) l.length 0 k (by omega) (by omega) (fun j hj => rfl)
  · rw [allFrom_true] at this
    exact this
  · simp only [P.laws_eqIntS.l0]
    rw [if_pos (by omega), if_pos (by omega), if_pos (by omega), w64_succ (by omega)]
  · simp only [P.laws_eqIntS.l0]
    rw [if_neg (by omega)]
theorem szIntS_eq (l : List Int) (left : Int) (hl : l.length ≤ maxLen) (h0 : 0 ≤ left) (h1 : left ≤ 1048576) : P.laws_szIntS.f l left = some (if (l.length : Int) ≤ left then left - l.length else -1) := by
  unfold maxLen at hl
  simp only [P.laws_szIntS.f]
  rw [w64 (by omega) (by omega)]
  by_cases h : (l.length : Int) ≤ left
  · rw [if_neg (by omega), if_pos h]
  · rw [if_pos (by omega), if_neg h]
def mkInt (m : Int) (_ : Int) : Int := m
theorem markIntS_l0 (l A : List Int) (m : Int) (k : Nat) (h : A.length + l.length ≤ 1048576) (h0 : 0 ≤ m) (h1 : m + l.length ≤ 1000000000) (hk : l.length < k) : P.laws_markIntS.l0 k (A ++ l) m (A.length : Int) = some (m + l.length, A ++ marked mkInt 1 m l) := by
  have := mark_loop (F := fun k x m i => P.laws_markIntS.l0 k x m i) mkInt 1 0 (fun k A x l m _ h0 h1 h => ?_) (fun k A m => ?_) l A m k h h0 (by omega) (by omega)
  · rw [show m + ((1 : Nat) : Int) * (l.length : Int) = m + l.length by omega] at this
    exact this
  · simp only [P.laws_markIntS.l0]
    rw [if_pos (by simp; omega), if_pos (by omega), Int.toNat_natCast, set_mid, w64 (by omega) (by omega), w64_succ (by omega)]
    rfl
  · simp only [P.laws_markIntS.l0]
    rw [if_neg (by omega)]
theorem heldIntS_l0 (l A : List Int) (m : Int) (k : Nat) (h : A.length + l.length ≤ 1048576) (h0 : 0 ≤ m) (h1 : m + l.length ≤ 1000000000) (hk : l.length < k) : P.laws_heldIntS.l0 k (A ++ marked mkInt 1 m l) m (A.length : Int) = some (m + l.length) := by
  have := held_loop (F := fun k x m i => P.laws_heldIntS.l0 k x m i) mkInt 1 0 (fun k A x l m _ h0 h1 h => ?_) (fun k A m => ?_) l A m k h h0 (by omega) (by omega)
  · rw [show m + ((1 : Nat) : Int) * (l.length : Int) = m + l.length by omega] at this
    exact this
  · simp only [P.laws_heldIntS.l0]
    rw [if_pos (by simp; omega), if_pos (by omega), rd_nat, getD_mid, if_pos (show mkInt m x = m from rfl), w64 (by omega) (by omega), w64_succ (by omega)]
    rfl
  · simp only [P.laws_heldIntS.l0]
    rw [if_neg (by omega)]
theorem markIntS_eq (l : List Int) (m : Int) (k : Nat) (h : l.length ≤ 1048576) (h0 : 0 ≤ m) (h1 : m + l.length ≤ 1000000000) (hk : l.length < k) : P.laws_markIntS.f k l m = some (m + l.length, marked mkInt 1 m l) :=
  markIntS_l0 l [] m k (by simpa using h) h0 h1 hk
theorem heldIntS_eq (l : List Int) (m : Int) (k : Nat) (h : l.length ≤ 1048576) (h0 : 0 ≤ m) (h1 : m + l.length ≤ 1000000000) (hk : l.length < k) : P.laws_heldIntS.f k (marked mkInt 1 m l) m = some (m + l.length) :=
  heldIntS_l0 l [] m k (by simpa using h) h0 h1 hk
end Go.Proofs.Ytlfhedmmlfpekaa

/- Rows, cases and tables: both sides say the same. Conditions: none beyond those of each lemma. -/
namespace Go.Proofs.Ytlfhedmmlfpekaa
open Go.RowKit Go.Proofs.YtlfhedmmlfpekaaW.PrintWords
set_option linter.unusedSimpArgs false
set_option linter.unusedVariables false
abbrev Rw := P.S64
abbrev LRw := P.S61
def toRw (x : LRw) : Rw := ⟨x.f0, x.f1, x.f2, x.f3, x.f4, x.f5, x.f6⟩
theorem and3 (p q r : Prop) [Decidable p] [Decidable q] [Decidable r] : (if p then if q then some (decide r) else some false else some false) = some (decide (p ∧ q ∧ r)) := by
  by_cases hp : p <;> by_cases hq : q <;> simp [hp, hq]
def caseB (a b c : Int) : Bool := decide ((0 ≤ a ∧ a ≤ 5) ∧ (0 ≤ b ∧ b ≤ 3) ∧ (0 ≤ c ∧ c ≤ 23))
theorem tbCase_eq (a b c : Int) : P.spec_tbCase.f a b c = some (caseB a b c) := by
  simp only [P.spec_tbCase.f, l1In_eq, bind_if, decide_eq_true_eq, Option.bind_some, if_true, if_false, Bool.false_eq_true, and3, caseB]
theorem isCase_eq (a b c : Int) : P.impl_isCase.f a b c = some (caseB a b c) := by
  simp only [P.impl_isCase.f, inside_eq, bind_if, decide_eq_true_eq, Option.bind_some, if_true, if_false, Bool.false_eq_true, and3, caseB]
theorem toCase_eq (a b c : Int) : P.laws_toCase.f a b c = some (a, b, c) := rfl
def ndOk (l : List Int) (j : Nat) : Bool := decide (0 ≤ l.getD j 0 ∧ l.getD j 0 ≤ 6)
def needB (l : List Int) : Bool := allFrom (ndOk l) l.length 0 && decide (l.length = 4)
theorem l1All_eq (l : List Int) (hl : l.length ≤ 1048576) (k : Nat) (hk : l.length < k) : P.spec_l1All.f k l 0 6 = some (allFrom (ndOk l) l.length 0) := by
  have := all_loop_end (F := fun k i => P.spec_l1All.l0 k 0 6 l (l.length : Int) i) (n := l.length) (ndOk l) true 0 (fun k i _ hi _ => ?_) (fun k _ _ => ?_) l.length 0 k (by omega) (by omega) (fun j hj => by omega)
  · rw [Bool.and_true] at this
    exact this
  · simp only [P.spec_l1All.l0]
    rw [if_pos (by omega), if_pos (by omega), if_pos (by omega), rd_nat, l1In_eq, w64_succ (by omega)]
    rfl
  · simp only [P.spec_l1All.l0]
    rw [if_neg (by omega)]
theorem tbNeed_eq (l : List Int) (hl : l.length ≤ 1048576) (k : Nat) (hk : l.length < k) : P.spec_tbNeed.f k l = some (needB l) := by
  simp only [P.spec_tbNeed.f, l1All_eq l hl k hk, Option.bind_some]
  by_cases h : l.length = 4
  · rw [if_pos (by omega), needB, decide_eq_true h, Bool.and_true]
  · rw [if_neg (by omega), needB, decide_eq_false h, Bool.and_false]
theorem isNeed_eq (l : List Int) (hl : l.length ≤ 1048576) (k : Nat) (hk : l.length < k) : P.impl_isNeed.f k l = some (needB l) := by
  have := all_loop_end (F := fun k i => P.impl_isNeed.l0 k l l (l.length : Int) i) (n := l.length) (ndOk l) ((l.length : Int) == 4) 0 (fun k i _ hi _ => ?_) (fun k _ _ => ?_) l.length 0 k (by omega) (by omega) (fun j hj => by omega)
  · have e : ((l.length : Int) == 4) = decide (l.length = 4) := by rw [Bool.eq_iff_iff]; simp; omega
    rw [e] at this
    exact this
  · simp only [P.impl_isNeed.l0]
    rw [if_pos (by omega), if_pos (by omega), if_pos (by omega), rd_nat, inside_eq, w64_succ (by omega)]
    rfl
  · simp only [P.impl_isNeed.l0]
    rw [if_neg (by omega)]
def boundsB (x : Rw) : Bool := decide ((0 ≤ x.f0 ∧ x.f0 ≤ x.f1 ∧ x.f1 ≤ 5) ∧ (0 ≤ x.f2 ∧ x.f2 ≤ x.f3 ∧ x.f3 ≤ 3) ∧ (0 ≤ x.f4 ∧ x.f4 ≤ x.f5 ∧ x.f5 ≤ 23))
def rowB (x : Rw) : Bool := boundsB x && needB x.f6
theorem tbRow_eq (x : Rw) (hl : x.f6.length ≤ 1048576) (k : Nat) (hk : x.f6.length < k) : P.spec_tbRow.f k x.f0 x.f1 x.f2 x.f3 x.f4 x.f5 x.f6 = some (rowB x) := by
  simp only [P.spec_tbRow.f, l1In_eq, bind_if, decide_eq_true_eq, tbNeed_eq _ hl k hk, Option.bind_some, if_true, if_false, Bool.false_eq_true, rowB]
  by_cases h : boundsB x = true
  · have h' := h
    simp only [boundsB, decide_eq_true_eq] at h'
    rw [if_pos (by omega), if_pos (by omega), if_pos (by omega), if_pos (by omega), if_pos (by omega), if_pos (by omega), h, Bool.true_and]
  · have h' := h
    simp only [boundsB, decide_eq_true_eq] at h'
    rw [Bool.eq_false_iff.2 h, Bool.false_and]
    repeat' split
    all_goals first | rfl | (exfalso; omega)
theorem isRow_eq (x : Rw) (hl : x.f6.length ≤ 1048576) (k : Nat) (hk : x.f6.length < k) : P.impl_isRow.f k x.f0 x.f1 x.f2 x.f3 x.f4 x.f5 x.f6 = some (rowB x) := by
  simp only [P.impl_isRow.f, inside_eq, bind_if, decide_eq_true_eq, isNeed_eq _ hl k hk, Option.bind_some, if_true, if_false, Bool.false_eq_true, rowB]
  by_cases h : boundsB x = true
  · have h' := h
    simp only [boundsB, decide_eq_true_eq] at h'
    rw [if_pos (by omega), if_pos (by omega), if_pos (by omega), if_pos (by omega), if_pos (by omega), if_pos (by omega), h, Bool.true_and]
  · have h' := h
    simp only [boundsB, decide_eq_true_eq] at h'
    rw [Bool.eq_false_iff.2 h, Bool.false_and]
    repeat' split
    all_goals first | rfl | (exfalso; omega)
/-! ### Slices -/
def rwAt (l : List Rw) (j : Nat) : Rw := l.getD j P.z64
theorem rd_rw (l : List Rw) (j : Nat) : P.rd_T64 l (j : Int) = rwAt l j := by simp [P.rd_T64, rwAt]
/-- Not too long, nor any need in it. -/
def Brief (l : List Rw) : Prop := l.length ≤ 1048576 ∧ ∀ x ∈ l, x.f6.length ≤ 1048576
theorem Brief.at_ {l : List Rw} (h : Brief l) (j : Nat) (hj : j < l.length) : (rwAt l j).f6.length ≤ 1048576 := by
  have : rwAt l j = l[j] := by simp [rwAt, List.getD_eq_getElem?_getD, List.getElem?_eq_getElem hj]
  rw [this]
  exact h.2 _ (List.getElem_mem hj)
def LBrief (l : List LRw) : Prop := l.length ≤ 1048576 ∧ ∀ x ∈ l, x.f6.length ≤ 1048576
theorem LBrief.map {l : List LRw} (h : LBrief l) : Brief (l.map toRw) := ⟨by simpa using h.1, fun x hx => by
  obtain ⟨y, hy, rfl⟩ := List.mem_map.1 hx
  exact h.2 y hy⟩
theorem toRow_eq (x : LRw) (hl : x.f6.length ≤ 1048576) (k : Nat) (hk : x.f6.length < k) : P.laws_toRow.f k x.f0 x.f1 x.f2 x.f3 x.f4 x.f5 x.f6 = some (x.f0, x.f1, x.f2, x.f3, x.f4, x.f5, x.f6) := by
  simp only [P.laws_toRow.f, toIntS_eq _ hl k hk, Option.bind_some]
theorem toRowS_eq (l : List LRw) (hl : LBrief l) (k : Nat) (hk : 2100000 < k) : P.laws_toRowS.f k l = some (l.map toRw) := by
  have hll := hl.1
  simp only [P.laws_toRowS.f]
  rw [if_pos (by omega), if_pos (by omega)]
  refine copy_loop (F := fun k B i => P.laws_toRowS.l0 k l B i) l P.z61 toRw P.z64 1048577 (fun k i d B hk h hB => ?_) (fun k B _ hB => ?_) l.length 0 k (by omega) (by omega)
  · simp only [P.laws_toRowS.l0]
    have hf := fill_set B d P.z64 (toRw (l.getD i P.z61))
    rw [hB] at hf
    have hi : i < l.length := by omega
    have hx : (l.getD i P.z61).f6.length ≤ 1048576 := by
      have : l.getD i P.z61 = l[i] := by simp [List.getD_eq_getElem?_getD, List.getElem?_eq_getElem hi]
      rw [this]
      exact hl.2 _ (List.getElem_mem hi)
    rw [if_pos (by omega), if_pos (by omega)]
    simp only [P.rd_T61, Int.toNat_natCast, toRow_eq _ hx k (by omega), Option.bind_some]
    rw [if_pos (by simp; omega), w64_succ (by omega), ← hf]
    rfl
  · simp only [P.laws_toRowS.l0]
    rw [if_neg (by omega)]
theorem eqRow_refl (x : Rw) (hl : x.f6.length ≤ 1048576) (k : Nat) (hk : x.f6.length < k) : P.laws_eqRow.f k x.f0 x.f1 x.f2 x.f3 x.f4 x.f5 x.f6 x.f0 x.f1 x.f2 x.f3 x.f4 x.f5 x.f6 = some true := by
  simp [P.laws_eqRow.f, eqIntS_refl _ hl k hk]
theorem eqRowS_refl (l : List Rw) (hl : Brief l) (k : Nat) (hk : 2100000 < k) : P.laws_eqRowS.f k l l = some true := by
  have hll := hl.1
  simp only [P.laws_eqRowS.f, if_true]
  have := all_loop_end (F := fun k i => P.laws_eqRowS.l0 k l l i) (n := l.length) (fun _ => true) true 1048577 (fun k i hk hi _ => ?_) (fun k _ _ => ?_) l.length 0 k (by omega) (by omega) (fun j hj => rfl)
  · rw [allFrom_true] at this
    exact this
  · simp only [P.laws_eqRowS.l0]
    have hx := hl.at_ i hi
    rw [if_pos (by omega), if_pos (by omega), if_pos (by omega), w64_succ (by omega), rd_rw, eqRow_refl _ hx k (by omega)]
    rfl
  · simp only [P.laws_eqRowS.l0]
    rw [if_neg (by omega)]
theorem szRow_eq (x : LRw) (left : Int) (hx : x.f6.length ≤ maxLen) (h0 : 0 ≤ left) (h1 : left ≤ 1048576) : P.laws_szRow.f x.f0 x.f1 x.f2 x.f3 x.f4 x.f5 x.f6 left = some (if (x.f6.length : Int) ≤ left then left - x.f6.length else -1) := by
  simp only [P.laws_szRow.f, szIntS_eq _ left hx h0 h1, Option.bind_some]
  by_cases h : (x.f6.length : Int) ≤ left
  · rw [if_pos h, if_neg (by omega)]
  · rw [if_neg h, if_pos (by omega)]
theorem szRowS_l0 (l : List LRw) (hw : ∀ x ∈ l, Wf61 x) (hl : l.length ≤ 1048576) : ∀ (d i : Nat) (left : Int), i + d = l.length → 0 ≤ left → left ≤ 1048576 →
    ∃ r : Int, r ≤ left ∧ (0 ≤ r → ∀ j, i ≤ j → (hj : j < l.length) → (l[j]).f6.length ≤ 1048576) ∧ ∀ k, d < k → P.laws_szRowS.l0 k l left i = some r := by
  intro d
  induction d with
  | zero =>
    intro i left h h0 h1
    refine ⟨left, Int.le_refl _, fun _ j hj hj2 => absurd hj2 (by omega), fun k hk => ?_⟩
    obtain ⟨k, rfl⟩ : ∃ m, k = m + 1 := ⟨k - 1, by omega⟩
    simp only [P.laws_szRowS.l0]
    rw [if_neg (by omega)]
  | succ d ih =>
    intro i left h h0 h1
    have hi : i < l.length := by omega
    have hx := (hw _ (List.getElem_mem hi)).2.2.2.2.2.2.1
    have hr : P.rd_T61 l (i : Int) = l[i] := by simp [P.rd_T61, List.getD_eq_getElem?_getD, List.getElem?_eq_getElem hi]
    by_cases hc : ((l[i]).f6.length : Int) ≤ left
    · obtain ⟨r, hr0, hr1, hr2⟩ := ih (i + 1) (left - (l[i]).f6.length) (by omega) (by omega) (by omega)
      refine ⟨r, by omega, fun h0r j hj hj2 => ?_, fun k hk => ?_⟩
      · by_cases e : j = i
        · subst e; omega
        · exact hr1 h0r j (by omega) hj2
      · obtain ⟨k, rfl⟩ : ∃ m, k = m + 1 := ⟨k - 1, by omega⟩
        simp only [P.laws_szRowS.l0]
        rw [if_pos (by omega), if_pos (by omega), hr, szRow_eq _ left hx h0 h1, if_pos hc]
        simp only [Option.bind_some]
        rw [if_neg (by omega), w64_succ (by omega)]
        exact hr2 k (by omega)
    · refine ⟨-1, by omega, fun h => absurd h (by omega), fun k hk => ?_⟩
      obtain ⟨k, rfl⟩ : ∃ m, k = m + 1 := ⟨k - 1, by omega⟩
      simp only [P.laws_szRowS.l0]
      rw [if_pos (by omega), if_pos (by omega), hr, szRow_eq _ left hx h0 h1, if_neg hc]
      simp only [Option.bind_some]
      rw [if_pos (by omega)]
theorem szRowS_any (l : List LRw) (left : Int) (h0 : 0 ≤ left) (h1 : left ≤ 1048576) (hl : l.length ≤ maxLen) (hw : ∀ x ∈ l, Wf61 x) : ∃ r : Int, r ≤ 1048576 ∧ (0 ≤ r → LBrief l) ∧ ∀ k, l.length < k → P.laws_szRowS.f k l left = some r := by
  unfold maxLen at hl
  by_cases h : (l.length : Int) ≤ left
  · obtain ⟨r, hr0, hr1, hr2⟩ := szRowS_l0 l hw (by omega) l.length 0 (left - (l.length : Int)) (by omega) (by omega) (by omega)
    refine ⟨r, by omega, fun h0 => ⟨by omega, fun x hx => ?_⟩, fun k hk => ?_⟩
    · obtain ⟨j, hj, rfl⟩ := List.getElem_of_mem hx
      exact hr1 h0 j (by omega) hj
    · simp only [P.laws_szRowS.f]
      rw [w64 (by omega) (by omega), if_neg (by omega)]
      exact hr2 k (by omega)
  · refine ⟨-1, by omega, fun h => absurd h (by omega), fun k hk => ?_⟩
    simp only [P.laws_szRowS.f]
    rw [w64 (by omega) (by omega), if_pos (by omega)]
/-! ### A table -/
def tableB (l : List Rw) : Bool := allFrom (fun j => rowB (rwAt l j)) l.length 0 && decide ((l.length : Int) ≤ 10)
theorem tbGood_eq (l : List Rw) (hl : Brief l) (k : Nat) (hk : 2100000 < k) : P.spec_tbGood.f k l = some (tableB l) := by
  have hll := hl.1
  refine all_loop_end (F := fun k i => P.spec_tbGood.l0 k l l (l.length : Int) i) (n := l.length) (fun j => rowB (rwAt l j)) (decide ((l.length : Int) ≤ 10)) 1048577 (fun k i hk hi _ => ?_) (fun k _ _ => ?_) l.length 0 k (by omega) (by omega) (fun j hj => by omega)
  · simp only [P.spec_tbGood.l0]
    have hsz := hl.at_ i hi
    rw [if_pos (by omega), if_pos (by omega), if_pos (by omega), w64_succ (by omega), rd_rw, tbRow_eq _ hsz k (by omega)]
    rfl
  · simp only [P.spec_tbGood.l0]
    rw [if_neg (by omega)]
theorem isTable_eq (l : List Rw) (hl : Brief l) (k : Nat) (hk : 2100000 < k) : P.impl_isTable.f k l = some (tableB l) := by
  have hll := hl.1
  refine all_loop_end (F := fun k i => P.impl_isTable.l0 k l l (l.length : Int) i) (n := l.length) (fun j => rowB (rwAt l j)) (decide ((l.length : Int) ≤ 10)) 1048577 (fun k i hk hi _ => ?_) (fun k _ _ => ?_) l.length 0 k (by omega) (by omega) (fun j hj => by omega)
  · simp only [P.impl_isTable.l0]
    have hsz := hl.at_ i hi
    rw [if_pos (by omega), if_pos (by omega), if_pos (by omega), w64_succ (by omega), rd_rw, isRow_eq _ hsz k (by omega)]
    rfl
  · simp only [P.impl_isTable.l0]
    rw [if_neg (by omega)]
theorem tableB_spec {l : List Rw} (h : tableB l = true) : l.length ≤ 10 ∧ ∀ j, j < l.length → rowB (rwAt l j) = true := by
  simp only [tableB, Bool.and_eq_true, decide_eq_true_eq, allFrom_iff] at h
  exact ⟨by omega, fun j hj => h.1 j (by omega) (by omega)⟩
end Go.Proofs.Ytlfhedmmlfpekaa

/- The row for a case, all cases, the shares: both sides say the same. Conditions: none beyond those of each lemma. -/
namespace Go.Proofs.Ytlfhedmmlfpekaa
open Go.RowKit Go.Proofs.YtlfhedmmlfpekaaW.PrintWords
set_option linter.unusedSimpArgs false
set_option linter.unusedVariables false
def matchB (x : Rw) (a b c : Int) : Bool := decide ((x.f0 ≤ a ∧ a ≤ x.f1) ∧ (x.f2 ≤ b ∧ b ≤ x.f3) ∧ (x.f4 ≤ c ∧ c ≤ x.f5))
theorem tbMatches_eq (x : Rw) (a b c : Int) : P.spec_tbMatches.f x.f0 x.f1 x.f2 x.f3 x.f4 x.f5 x.f6 a b c = some (matchB x a b c) := by
  simp only [P.spec_tbMatches.f, l1In_eq, bind_if, decide_eq_true_eq, Option.bind_some, if_true, if_false, Bool.false_eq_true, and3, matchB]
theorem matches_eq (x : Rw) (a b c : Int) : P.impl_Row_matches.f x.f0 x.f1 x.f2 x.f3 x.f4 x.f5 x.f6 a b c = some (matchB x a b c) := by
  simp only [P.impl_Row_matches.f, inside_eq, bind_if, decide_eq_true_eq, Option.bind_some, if_true, if_false, Bool.false_eq_true, and3, matchB]
def forFrom (l : List Rw) (a b c : Int) : Nat → Nat → Int
  | 0, _ => -1
  | d + 1, i => if matchB (rwAt l i) a b c = true then (i : Int) else forFrom l a b c d (i + 1)
/-- The row for a case, or -1. -/
def forV (l : List Rw) (a b c : Int) : Int := forFrom l a b c l.length 0
theorem forFrom_range (l : List Rw) (a b c : Int) : ∀ d i, forFrom l a b c d i = -1 ∨ ((i : Int) ≤ forFrom l a b c d i ∧ forFrom l a b c d i < i + d)
  | 0, _ => .inl rfl
  | d + 1, i => by
    simp only [forFrom]
    split
    · right; omega
    · rcases forFrom_range l a b c d (i + 1) with h | h
      · exact .inl h
      · right; omega
theorem forV_range (l : List Rw) (a b c : Int) : forV l a b c = -1 ∨ (0 ≤ forV l a b c ∧ forV l a b c < l.length) := by
  rcases forFrom_range l a b c l.length 0 with h | h
  · exact .inl h
  · right; unfold forV; omega
theorem tbFor_eq (l : List Rw) (hl : l.length ≤ 1048576) (a b c : Int) (k : Nat) (hk : l.length < k) : P.spec_tbFor.f k l a b c = some (forV l a b c) := by
  have key : ∀ (d i k : Nat), i + d = l.length → d < k → P.spec_tbFor.l0 k l (l.length : Int) i a b c = some (forFrom l a b c d i) := by
    intro d
    induction d with
    | zero =>
      intro i k h hk
      obtain ⟨k, rfl⟩ : ∃ m, k = m + 1 := ⟨k - 1, by omega⟩
      simp only [P.spec_tbFor.l0]
      rw [if_neg (by omega)]
      rfl
    | succ d ih =>
      intro i k h hk
      obtain ⟨k, rfl⟩ : ∃ m, k = m + 1 := ⟨k - 1, by omega⟩
      simp only [P.spec_tbFor.l0]
      rw [if_pos (by omega), if_pos (by omega), if_pos (by omega), rd_rw, tbMatches_eq, w64_succ (by omega)]
      simp only [Option.bind_some, forFrom]
      by_cases hm : matchB (rwAt l i) a b c = true
      · rw [if_pos hm, if_pos hm]
      · rw [if_neg hm, if_neg hm]
        exact ih (i + 1) k (by omega) (by omega)
  exact key l.length 0 k (by omega) hk
theorem rowFor_eq (l : List Rw) (hl : l.length ≤ 1048576) (a b c : Int) (k : Nat) (hk : l.length < k) : P.impl_rowFor.f k l a b c = some (forV l a b c) := by
  have key : ∀ (d i k : Nat), i + d = l.length → d < k → P.impl_rowFor.l0 k l a b c i = some (forFrom l a b c d i) := by
    intro d
    induction d with
    | zero =>
      intro i k h hk
      obtain ⟨k, rfl⟩ : ∃ m, k = m + 1 := ⟨k - 1, by omega⟩
      simp only [P.impl_rowFor.l0]
      rw [if_neg (by omega)]
      rfl
    | succ d ih =>
      intro i k h hk
      obtain ⟨k, rfl⟩ : ∃ m, k = m + 1 := ⟨k - 1, by omega⟩
      simp only [P.impl_rowFor.l0]
      rw [if_pos (by omega), if_pos (by omega), rd_rw, matches_eq, w64_succ (by omega)]
      simp only [Option.bind_some, forFrom]
      by_cases hm : matchB (rwAt l i) a b c = true
      · rw [if_pos hm, if_pos hm]
      · rw [if_neg hm, if_neg hm]
        exact ih (i + 1) k (by omega) (by omega)
  exact key l.length 0 k (by omega) hk
/-! ### All cases -/
abbrev Cs := P.S25
def csAt (l : List Cs) (j : Nat) : Cs := l.getD j P.z25
theorem rd_cs (l : List Cs) (j : Nat) : P.rd_T25 l (j : Int) = csAt l j := by simp [P.rd_T25, csAt]
def casesL : List Cs := (List.range 6).flatMap fun (a : Nat) => (List.range 4).flatMap fun (b : Nat) => (List.range 24).map fun (c : Nat) => (⟨(a : Int), (b : Int), (c : Int)⟩ : Cs)
theorem tbCases_1000 : P.spec_tbCases.f 1000 = some casesL := by kernel_rfl
theorem allCases_1000 : P.impl_allCases.f 1000 = some casesL := by kernel_rfl
theorem tbCases_eq (k : Nat) (hk : 1000 ≤ k) : P.spec_tbCases.f k = some casesL := at_rounds (fun k => P.spec_tbCases.mono k) hk tbCases_1000
theorem allCases_eq (k : Nat) (hk : 1000 ≤ k) : P.impl_allCases.f k = some casesL := at_rounds (fun k => P.impl_allCases.mono k) hk allCases_1000
theorem casesL_length : casesL.length = 576 := by decide +kernel
/-! ### The shares -/
theorem shares_ends (l : List Rw) (hl : l.length ≤ 1048576) : ∀ (d i : Nat) (acc : List Int), i + d = 576 → acc.length = l.length →
    ∃ s : List Int, s.length = l.length ∧ ∀ k, l.length + d < k → P.spec_tbShares.l0 k l acc casesL (casesL.length : Int) i = some s ∧ P.impl_sharesOf.l0 k l acc casesL (casesL.length : Int) i = some s := by
  intro d
  induction d with
  | zero =>
    intro i acc h ha
    refine ⟨acc, ha, fun k hk => ?_⟩
    obtain ⟨k, rfl⟩ : ∃ m, k = m + 1 := ⟨k - 1, by omega⟩
    simp only [P.spec_tbShares.l0, P.impl_sharesOf.l0, casesL_length]
    rw [if_neg (by omega), if_neg (by omega)]
    exact ⟨rfl, rfl⟩
  | succ d ih =>
    intro i acc h ha
    have hr := forV_range l (csAt casesL i).f0 (csAt casesL i).f1 (csAt casesL i).f2
    by_cases hc : 0 ≤ forV l (csAt casesL i).f0 (csAt casesL i).f1 (csAt casesL i).f2
    · obtain ⟨s, hs, hh⟩ := ih (i + 1) (acc.set (forV l (csAt casesL i).f0 (csAt casesL i).f1 (csAt casesL i).f2).toNat (wrap64 (rd acc (forV l (csAt casesL i).f0 (csAt casesL i).f1 (csAt casesL i).f2) + 1))) (by omega) (by simpa using ha)
      refine ⟨s, hs, fun k hk => ?_⟩
      obtain ⟨k, rfl⟩ : ∃ m, k = m + 1 := ⟨k - 1, by omega⟩
      have hk' := hh k (by omega)
      simp only [casesL_length] at hk'
      simp only [P.spec_tbShares.l0, P.impl_sharesOf.l0, casesL_length]
      rw [if_pos (by omega), if_pos (by omega), if_pos (by omega), if_pos (by omega), if_pos (by omega), if_pos (by omega), rd_cs, tbFor_eq l hl _ _ _ k (by omega), rowFor_eq l hl _ _ _ k (by omega), w64_succ (by omega)]
      simp only [Option.bind_some]
      rw [if_pos (by omega), if_pos hc, if_pos (by omega), if_pos (by omega), if_pos hc, if_pos (by omega)]
      exact hk'
    · obtain ⟨s, hs, hh⟩ := ih (i + 1) acc (by omega) ha
      refine ⟨s, hs, fun k hk => ?_⟩
      obtain ⟨k, rfl⟩ : ∃ m, k = m + 1 := ⟨k - 1, by omega⟩
      have hk' := hh k (by omega)
      simp only [casesL_length] at hk'
      simp only [P.spec_tbShares.l0, P.impl_sharesOf.l0, casesL_length]
      rw [if_pos (by omega), if_pos (by omega), if_pos (by omega), if_pos (by omega), if_pos (by omega), if_pos (by omega), rd_cs, tbFor_eq l hl _ _ _ k (by omega), rowFor_eq l hl _ _ _ k (by omega), w64_succ (by omega)]
      simp only [Option.bind_some]
      rw [if_neg (by omega), if_neg (by omega)]
      exact hk'
theorem shares_same (l : List Rw) (hl : l.length ≤ 1048576) : ∃ s : List Int, s.length = l.length ∧ ∀ k, 2100000 < k → P.spec_tbShares.f k l = some s ∧ P.impl_sharesOf.f k l = some s := by
  obtain ⟨s, hs, h⟩ := shares_ends l hl 576 0 (List.replicate l.length 0) (by omega) (by simp)
  refine ⟨s, hs, fun k hk => ?_⟩
  have := h k (by omega)
  simp only [P.spec_tbShares.f, P.impl_sharesOf.f, tbCases_eq k (by omega), allCases_eq k (by omega), Option.bind_some]
  rw [if_pos (by omega), if_pos (by omega), if_pos (by omega), if_pos (by omega), Int.toNat_natCast]
  exact this
end Go.Proofs.Ytlfhedmmlfpekaa

/- IsStronger: the plain law. Conditions: none. -/
namespace Go.Proofs.Ytlfhedmmlfpekaa
open Go.RowKit Go.Proofs.YtlfhedmmlfpekaaW.PrintWords
set_option linter.unusedSimpArgs false
set_option linter.unusedVariables false
theorem rd_rwI (l : List Rw) (n : Int) : P.rd_T64 l n = rwAt l n.toNat := by simp [P.rd_T64, rwAt]
theorem tableB_len {l : List Rw} (h : tableB l = true) (n : Int) (h0 : 0 ≤ n) (h1 : n < l.length) : (rwAt l n.toNat).f6.length = 4 := by
  have := (tableB_spec h).2 n.toNat (by omega)
  simp only [rowB, needB, Bool.and_eq_true, decide_eq_true_eq] at this
  exact this.2.2
def covB (a b : List Int) (j : Nat) : Bool := !decide (rd a j < rd b j)
theorem covers_l0 (a b : List Int) (ha : a.length = 4) (hb : b.length = 4) : ∀ (d i k : Nat), i + d = 4 → d < k → P.impl_covers.l0 k a b 4 i = some (allFrom (covB a b) d i) := by
  intro d
  induction d with
  | zero =>
    intro i k h hk
    obtain ⟨k, rfl⟩ : ∃ m, k = m + 1 := ⟨k - 1, by omega⟩
    simp only [P.impl_covers.l0]
    rw [if_neg (by omega)]
    rfl
  | succ d ih =>
    intro i k h hk
    obtain ⟨k, rfl⟩ : ∃ m, k = m + 1 := ⟨k - 1, by omega⟩
    simp only [P.impl_covers.l0, allFrom]
    rw [if_pos (by omega), if_pos (by omega), if_pos (by omega), if_pos (by omega), w64_succ (by omega)]
    by_cases hc : rd a (i : Int) < rd b (i : Int)
    · rw [if_pos hc]; simp [covB, hc]
    · rw [if_neg hc, ih (i + 1) k (by omega) (by omega)]
      simp [covB, hc]
theorem covers_eq (a b : List Int) (ha : a.length = 4) (hb : b.length = 4) (k : Nat) (hk : 5 ≤ k) : P.impl_covers.f k a b = some (allFrom (covB a b) 4 0) := by
  have := covers_l0 a b ha hb 4 0 k (by omega) (by omega)
  simp only [P.impl_covers.f, hb]
  exact this
theorem needFor_eq (l : List Rw) (hl : Brief l) (a b c : Int) (k : Nat) (hk : l.length < k) : P.impl_needFor.f k l a b c = some (if 0 ≤ forV l a b c then ((rwAt l (forV l a b c).toNat).f6, true) else ([], false)) := by
  have hll := hl.1
  simp only [P.impl_needFor.f, rowFor_eq l hll _ _ _ k hk, Option.bind_some]
  have hr := forV_range l a b c
  by_cases h : 0 ≤ forV l a b c
  · have hx := hl.at_ (forV l a b c).toNat (by omega)
    rw [if_neg (by omega), if_pos h, if_pos (by omega), if_pos h, rd_rwI]
    simp only [P.slices_Clone_int_int.f]
    rw [if_pos (by omega)]
    rfl
  · rw [if_pos (by omega), if_neg h]
theorem strong_l1 (x y : List Rw) (h : Int) (h0 : 0 ≤ h) (h1 : h < x.length) (b : List Int) (ha : (rwAt x h.toNat).f6.length = 4) (hb : b.length = 4) (cl : List Cs) (ci : Int) : ∀ (d i k K : Nat), i + d = 4 → K = k + d + 1 →
    P.spec_IsStronger.l1 K x y h cl 576 ci b 4 i = if allFrom (covB (rwAt x h.toNat).f6 b) d i = true then P.spec_IsStronger.l0 k x y cl 576 (wrap64 (ci + 1)) else some (false, true) := by
  intro d
  induction d with
  | zero =>
    intro i k K hh hK
    obtain rfl : K = k + 1 := by omega
    simp only [P.spec_IsStronger.l1]
    rw [if_neg (by omega), if_pos (show allFrom (covB (rwAt x h.toNat).f6 b) 0 i = true from rfl)]
  | succ d ih =>
    intro i k K hh hK
    obtain ⟨K, rfl⟩ : ∃ m, K = m + 1 := ⟨K - 1, by omega⟩
    have e : allFrom (covB (rwAt x h.toNat).f6 b) (d + 1) i = (covB (rwAt x h.toNat).f6 b i && allFrom (covB (rwAt x h.toNat).f6 b) d (i + 1)) := rfl
    rw [e]
    simp only [P.spec_IsStronger.l1, rd_rwI]
    rw [if_pos (by omega), if_pos (by omega), if_pos (by omega), if_pos (by omega), if_pos (by omega), if_pos (by omega), w64_succ (by omega)]
    by_cases hc : rd (rwAt x h.toNat).f6 (i : Int) < rd b (i : Int)
    · rw [if_pos hc]; simp [covB, hc]
    · rw [if_neg hc, ih (i + 1) k K (by omega) (by omega)]
      simp [covB, hc]
theorem strong_ends (x y : List Rw) (hx : Brief x) (hy : Brief y) (tx : tableB x = true) (ty : tableB y = true) (cl : List Cs) (hlen : (cl.length : Int) = 576) : ∀ (d i : Nat), i + d = 576 →
    ∃ v : Bool × Bool, ∀ k, 10 * d + 30 < k → P.spec_IsStronger.l0 k x y cl 576 i = some v ∧ P.impl_IsStronger.l0 k x y cl 576 i = some v := by
  have hxl := (tableB_spec tx).1
  have hyl := (tableB_spec ty).1
  intro d
  induction d with
  | zero =>
    intro i h
    refine ⟨(true, true), fun k hk => ?_⟩
    obtain ⟨k, rfl⟩ : ∃ m, k = m + 1 := ⟨k - 1, by omega⟩
    simp only [P.spec_IsStronger.l0, P.impl_IsStronger.l0]
    rw [if_neg (by omega), if_neg (by omega)]
    exact ⟨rfl, rfl⟩
  | succ d ih =>
    intro i h
    obtain ⟨v, hv⟩ := ih (i + 1) (by omega)
    have hry := forV_range y (csAt cl i).f0 (csAt cl i).f1 (csAt cl i).f2
    have hrx := forV_range x (csAt cl i).f0 (csAt cl i).f1 (csAt cl i).f2
    by_cases hn : 0 ≤ forV y (csAt cl i).f0 (csAt cl i).f1 (csAt cl i).f2
    · by_cases hh : 0 ≤ forV x (csAt cl i).f0 (csAt cl i).f1 (csAt cl i).f2
      · have lx := tableB_len tx _ hh (by omega)
        have ly := tableB_len ty _ hn (by omega)
        by_cases hc : allFrom (covB (rwAt x (forV x (csAt cl i).f0 (csAt cl i).f1 (csAt cl i).f2).toNat).f6 (rwAt y (forV y (csAt cl i).f0 (csAt cl i).f1 (csAt cl i).f2).toNat).f6) 4 0 = true
        · refine ⟨v, fun k hk => ?_⟩
          obtain ⟨k, rfl⟩ : ∃ m, k = m + 1 := ⟨k - 1, by omega⟩
          have e1 := strong_l1 x y _ hh (by omega) _ lx ly cl i 4 0 (k - 5) k (by omega) (by omega)
          rw [if_pos hc, w64_succ (by omega), (hv (k - 5) (by omega)).1] at e1
          simp only [P.spec_IsStronger.l0, P.impl_IsStronger.l0, rd_cs, tbFor_eq x hx.1 _ _ _ k (by omega), tbFor_eq y hy.1 _ _ _ k (by omega), needFor_eq x hx _ _ _ k (by omega), needFor_eq y hy _ _ _ k (by omega), Option.bind_some, if_pos hn, if_pos hh, rd_rwI, covers_eq _ _ lx ly k (by omega), hc, ly, hlen, if_true]
          refine ⟨?_, ?_⟩
          · rw [if_pos (by omega), if_pos (by omega), if_pos (by omega), if_neg (by omega), if_neg (by omega), if_pos (by omega)]
            exact e1
          · rw [if_pos (by omega), if_pos (by omega), if_pos (by omega), w64_succ (by omega)]
            exact (hv k (by omega)).2
        · refine ⟨(false, true), fun k hk => ?_⟩
          obtain ⟨k, rfl⟩ : ∃ m, k = m + 1 := ⟨k - 1, by omega⟩
          have e1 := strong_l1 x y _ hh (by omega) _ lx ly cl i 4 0 (k - 5) k (by omega) (by omega)
          rw [if_neg hc] at e1
          simp only [P.spec_IsStronger.l0, P.impl_IsStronger.l0, rd_cs, tbFor_eq x hx.1 _ _ _ k (by omega), tbFor_eq y hy.1 _ _ _ k (by omega), needFor_eq x hx _ _ _ k (by omega), needFor_eq y hy _ _ _ k (by omega), Option.bind_some, if_pos hn, if_pos hh, rd_rwI, covers_eq _ _ lx ly k (by omega), if_neg hc, ly, hlen, if_true]
          refine ⟨?_, ?_⟩
          · rw [if_pos (by omega), if_pos (by omega), if_pos (by omega), if_neg (by omega), if_neg (by omega), if_pos (by omega)]
            exact e1
          · rw [if_pos (by omega), if_pos (by omega), if_pos (by omega)]
      · refine ⟨(false, true), fun k hk => ?_⟩
        obtain ⟨k, rfl⟩ : ∃ m, k = m + 1 := ⟨k - 1, by omega⟩
        simp only [P.spec_IsStronger.l0, P.impl_IsStronger.l0, rd_cs, tbFor_eq x hx.1 _ _ _ k (by omega), tbFor_eq y hy.1 _ _ _ k (by omega), needFor_eq x hx _ _ _ k (by omega), needFor_eq y hy _ _ _ k (by omega), Option.bind_some, if_pos hn, if_neg hh, hlen, if_true, if_false, Bool.false_eq_true]
        refine ⟨?_, ?_⟩
        · rw [if_pos (by omega), if_pos (by omega), if_pos (by omega), if_neg (by omega), if_pos (by omega)]
        · rw [if_pos (by omega), if_pos (by omega), if_pos (by omega)]
    · refine ⟨v, fun k hk => ?_⟩
      obtain ⟨k, rfl⟩ : ∃ m, k = m + 1 := ⟨k - 1, by omega⟩
      simp only [P.spec_IsStronger.l0, P.impl_IsStronger.l0, rd_cs, tbFor_eq x hx.1 _ _ _ k (by omega), tbFor_eq y hy.1 _ _ _ k (by omega), needFor_eq x hx _ _ _ k (by omega), needFor_eq y hy _ _ _ k (by omega), Option.bind_some, if_neg hn, hlen, if_false, Bool.false_eq_true]
      refine ⟨?_, ?_⟩
      · rw [if_pos (by omega), if_pos (by omega), if_pos (by omega), if_pos (by omega), w64_succ (by omega)]
        exact (hv k (by omega)).1
      · rw [if_pos (by omega), if_pos (by omega), if_pos (by omega), w64_succ (by omega)]
        exact (hv k (by omega)).2
theorem strong_same (x y : List Rw) (hx : Brief x) (hy : Brief y) : ∃ v : Bool × Bool, ∀ k, 2100001 < k → P.spec_IsStronger.f k x y = some v ∧ P.impl_IsStronger.f k x y = some v := by
  by_cases tx : tableB x = true
  · by_cases ty : tableB y = true
    · have hlen : ((casesL.length : Nat) : Int) = 576 := by rw [casesL_length]; rfl
      obtain ⟨v, hv⟩ := strong_ends x y hx hy tx ty casesL hlen 576 0 (by omega)
      refine ⟨v, fun k hk => ?_⟩
      obtain ⟨k, rfl⟩ : ∃ m, k = m + 1 := ⟨k - 1, by omega⟩
      have := hv k (by omega)
      simp only [P.spec_IsStronger.f, P.impl_IsStronger.f, P.spec_IsStronger.j0, P.impl_IsStronger.j0, tbGood_eq x hx (k + 1) (by omega), tbGood_eq y hy (k + 1) (by omega), isTable_eq x hx (k + 1) (by omega), isTable_eq y hy (k + 1) (by omega), tx, ty, Option.bind_some, if_true, Bool.not_true, Bool.false_eq_true, if_false, tbCases_eq k (by omega), allCases_eq k (by omega), hlen]
      exact this
    · refine ⟨(false, false), fun k hk => ?_⟩
      obtain ⟨k, rfl⟩ : ∃ m, k = m + 1 := ⟨k - 1, by omega⟩
      simp only [P.spec_IsStronger.f, P.impl_IsStronger.f, P.spec_IsStronger.j0, P.impl_IsStronger.j0, tbGood_eq x hx (k + 1) (by omega), tbGood_eq y hy (k + 1) (by omega), isTable_eq x hx (k + 1) (by omega), isTable_eq y hy (k + 1) (by omega), tx, Bool.eq_false_iff.2 ty, Option.bind_some, if_true, Bool.not_false, and_self]
  · refine ⟨(false, false), fun k hk => ?_⟩
    obtain ⟨k, rfl⟩ : ∃ m, k = m + 1 := ⟨k - 1, by omega⟩
    simp only [P.spec_IsStronger.f, P.impl_IsStronger.f, P.spec_IsStronger.j0, P.impl_IsStronger.j0, tbGood_eq x hx (k + 1) (by omega), isTable_eq x hx (k + 1) (by omega), Bool.eq_false_iff.2 tx, Option.bind_some, if_true, if_false, Bool.false_eq_true, and_self]
theorem FnExactIsStronger.pure : FnExactIsStronger.Said := by
  intro l m ⟨hl, hw⟩ ⟨hm, hwm⟩
  obtain ⟨r, hr0, hr, hz⟩ := szRowS_any l 1048576 (by omega) (by omega) hl hw
  obtain ⟨k, hk⟩ : ∃ k : Nat, l.length + m.length + 2100002 ≤ k := ⟨_, Nat.le_refl _⟩
  refine ⟨k + 1, ?_⟩
  simp only [P.laws_FnExactIsStronger.f, hz (k + 1) (by omega), Option.bind_some]
  by_cases h : 0 ≤ r
  · have hb := hr h
    obtain ⟨r2, hr20, hr2, hz2⟩ := szRowS_any m r (by omega) (by omega) hm hwm
    rw [if_neg (by omega)]
    simp only [hz2 (k + 1) (by omega), Option.bind_some]
    by_cases h2 : 0 ≤ r2
    · have hb2 := hr2 h2
      obtain ⟨v, hv⟩ := strong_same (l.map toRw) (m.map toRw) hb.map hb2.map
      obtain ⟨hv1, hv2⟩ := hv (k + 1) (by omega)
      rw [if_neg (by omega)]
      simp only [toRowS_eq l hb (k + 1) (by omega), toRowS_eq l hb k (by omega), toRowS_eq m hb2 (k + 1) (by omega), toRowS_eq m hb2 k (by omega), Option.bind_some, hv1, hv2, if_true, P.laws_FnExactIsStronger.j0, bne_self_eq_false, Bool.false_eq_true, if_false,
        eqRowS_refl (l.map toRw) hb.map k (by omega), eqRowS_refl (m.map toRw) hb2.map k (by omega)]
    · rw [if_pos (by omega)]
  · rw [if_pos (by omega)]
end Go.Proofs.Ytlfhedmmlfpekaa

namespace Go.Proofs.Ytlfhedmmlfpekaa.fnExactIsStronger
open Go.ChangeShapes Go.WideShapes Go.ChangeAt Go.RowKit Go.Proofs.Ytlfhedmmlfpekaa.Opens Go.Proofs.YtlfhedmmlfpekaaW.PrintWords
open Go.ChangeMaps (open_string shut_string)
set_option linter.unusedVariables false
theorem own : ownKnob Try.prog.godebug = none := by kernel_rfl
theorem laidOut : laidOutB Try.prog = true := by kernel_rfl
set_option maxRecDepth 100000 in
theorem lifted (os : Os) (started : os.Started) (H : Type) (enc : TypeId × Value → H) :
    ReturnsInHanded {} Try.checked os 9 .any (Rows.fnExactIsStrongerSpec.pre6 enc Try.prog Try.f9 Rows.fnExactIsStrongerRow.domain false) (Rows.fnExactIsStrongerSpec.post enc Try.prog Try.f9 false true false false) := by
  refine returnsInHanded_of_change_sized (C := Try.checked) own started (by kernel_rfl) Try.func9
    (ChangeSpec.witness6 (enc := enc) (C := Try.checked) false ⟨#[], #[.slice none 0 0, .slice none 0 0], []⟩ 8 (by kernel_rfl) (by kernel_rfl) (by kernel_rfl) (by kernel_rfl)) ?_
  intro W base args ds gs before hval0 hW hcnd hsz0 _
  have hval : ∀ (j : Nat) t v, Try.f9.params[j]? = some t → args[j]? = some v → Value.okWide Try.prog W .any base t v := hval0
  have hW' := hW
  obtain ⟨p, q, hA0, hV, rfl, hfz, hnd⟩ := hW
  have hA : DataW.TrodAll enc Try.prog W 0 (fun _ => true) true Try.f9.params.toList args.toList ds p := hA0
  rw [Try.params9] at hA hval
  obtain ⟨v0, vs0, d0, ds0, p0, q0, hargs, rfl, rfl, h0, r0⟩ := trodAll_cons hA
  obtain ⟨v1, vs1, d1, ds1, p1, q1, rfl, rfl, rfl, h1, r1⟩ := trodAll_cons r0
  obtain ⟨rfl, rfl, rfl⟩ := trodAll_nil r1
  obtain rfl : args = #[v0, v1] := by cases args; simp_all
  obtain ⟨rfl, rfl⟩ := trodVars_none hV
  have lt0 : ∀ x ∈ p0, x.block < W.heap.size := by obtain ⟨m, hm⟩ := h0; exact DataW.trod_lt m _ _ _ hm
  have k0 := h0
  obtain ⟨a0, len0, cap0, rfl⟩ := okWide_slice Try.underlying28 (hval 0 28 v0 rfl rfl)
  obtain ⟨l0, rfl, hc0, hr0, y0⟩ := opn_slice_val (opn_slice 61 Try.underlying28 (by kernel_rfl) opn61) h0
  have lt1 : ∀ x ∈ p1, x.block < W.heap.size := by obtain ⟨m, hm⟩ := h1; exact DataW.trod_lt m _ _ _ hm
  have k1 := h1
  obtain ⟨a1, len1, cap1, rfl⟩ := okWide_slice Try.underlying28 (hval 1 28 v1 rfl rfl)
  obtain ⟨l1, rfl, hc1, hr1, y1⟩ := opn_slice_val (opn_slice 61 Try.underlying28 (by kernel_rfl) opn61) h1
  obtain ⟨k, hp⟩ := FnExactIsStronger.pure l0 l1 y0 y1
  clear hA0 hval0 hsz0
  refine (P.laws_FnExactIsStronger.calls k a0 cap0 l0 a1 cap1 l1 true W hr0 hc0 hr1 hc1 hp).mono fun e W' ⟨he, bel0⟩ => ?_
  have bel : Below W.heap.size W W' := bel0
  subst he
  exact ⟨_, rfl, _, _, _, [], _, [], hW', trodAll_mk1 (shut_bool Try.underlying4 _), (trodAll_cons_mk (Below.trod laidOut (by kernel_rfl) (of_decide_eq_true (by kernel_rfl)) k0 bel lt0) (trodAll_cons_mk (Below.trod laidOut (by kernel_rfl) (of_decide_eq_true (by kernel_rfl)) k1 bel lt1) trodAll_mk0)), rfl, bel.frame _, fun h => by cases h⟩
theorem over : Rows.fnExactIsStrongerRow.holds Try.pinned (OpenSpec.ofChange Rows.fnExactIsStrongerSpec) :=
  OpenClaim.holds_of_wide 9 Try.f9 rfl rfl rfl rfl rfl rfl rfl ⟨rfl, rfl, rfl, rfl, rfl⟩ rfl rfl rfl rfl rfl (by kernel_rfl) Try.func9 (by kernel_rfl)
    (of_decide_eq_true (by kernel_rfl)) (by unfold Func.isWrapper; first | (rw [if_pos (by decide +kernel)]; kernel_rfl) | (rw [if_neg (by decide +kernel)]; exact ⟨rfl, rfl⟩))
    (fun os started H enc _ => lifted os started H enc)
end Go.Proofs.Ytlfhedmmlfpekaa.fnExactIsStronger
namespace Go.Proofs.Ytlfhedmmlfpekaa
/-- The statement. -/
theorem fnExactIsStronger_holds : Rows.FnExactIsStrongerSaid := fnExactIsStronger.over
#print axioms fnExactIsStronger_holds
end Go.Proofs.Ytlfhedmmlfpekaa
