/- For every input the call of FnExactShareCrew returns true, and its arguments read afterwards as before. Conditions: none. -/
import Derived.Test.YteinfbfaijjknaaQFnExactShareCrew7
import Derived.Test.YteinfbfaijjknaaWWords
import Derived.Test.YteinfbfaijjknaaWNEv
import Derived.Test.YteinfbfaijjknaaWMore
import Derived.Test.YteinfbfaijjknaaRows
import Derived.Deep.Slices
import Derived.WideShapes
import Derived.ChangeSame
import Derived.DataReads
import Derived.KernelRfl
import Derived.WalkKit
import Derived.ProofKit
import Derived.OpenShut
import Derived.ShutString
import Derived.ChangeOld
import Derived.Below
import Derived.SizedLaws
/- What an argument that reads as data is, as the printed texts' kinds say it: generic over the type. Conditions: none of our own. -/
namespace Go.Proofs.Yteinfbfaijjknaa.Opens
open Go.RowKit Go.Proofs.YteinfbfaijjknaaW.PrintWords
open Go.WideShapes

/-- Data of type T is of kind d, and Q holds of it. -/
def Opn {α : Type} (P : Program) (T : TypeId) (d : Kd α) (Q : α → Prop) : Prop :=
  ∀ (H : Type) (enc : TypeId × Value → H) (W : World) (fuel : Nat) (cs : List Value) (x : DataW H × List MemPlace), DataW.trod enc P W 0 (fun _ => true) true fuel T cs = some x → ∃ a, d.K W a cs ∧ Q a

theorem opn_int {P : Program} {T : TypeId} {k : IntKind} (hu : P.underlying T = some (.int k)) : Opn P T (Kd.int k) (fun a => (Lit.int k a).wf = true) := by
  intro H enc W fuel cs x h
  cases fuel with
  | zero => simp [DataW.trod] at h
  | succ n =>
    simp only [DataW.trod, hu] at h
    split at h
    all_goals first | (cases h; done) | skip
    all_goals simp_all [Kd.int, Kd.scalar]

theorem opn_bool {P : Program} {T : TypeId} (hu : P.underlying T = some .bool) : Opn P T Kd.bool (fun _ => True) := by
  intro H enc W fuel cs x h
  cases fuel with
  | zero => simp [DataW.trod] at h
  | succ n =>
    simp only [DataW.trod, hu] at h
    split at h
    all_goals first | (cases h; done) | skip
    all_goals simp_all [Kd.bool, Kd.scalar]

theorem opn_string {P : Program} {T : TypeId} (hu : P.underlying T = some .string) : Opn P T Kd.string (fun s => s.size ≤ maxLen) := by
  intro H enc W fuel cs x h
  cases fuel with
  | zero => simp [DataW.trod] at h
  | succ n =>
    simp only [DataW.trod, hu] at h
    split at h
    all_goals first | (cases h; done) | skip
    all_goals simp_all [Kd.string, Kd.scalar]


/-- Some fields of a struct, from number i and cell off on. -/
def OpnFs {α : Type} (P : Program) (fs : Array Field) (i off : Nat) (d : Kd α) (Q : α → Prop) : Prop :=
  ∀ (H : Type) (enc : TypeId × Value → H) (W : World) (n : Nat) (cs : List Value), (∀ j f, i ≤ j → fs[j]? = some f → ∃ y, DataW.trod enc P W 0 (fun _ => true) true n f.type ((cs.drop f.offset).take (P.cellsOf f.type)) = some y) →
    cs.length = off + d.sz → ∃ a, d.K W a (cs.drop off) ∧ Q a

theorem opnFs_last {α : Type} {P : Program} {fs : Array Field} {i off : Nat} {d : Kd α} {Q : α → Prop} (f : Field) (hf : fs[i]? = some f) (ho : f.offset = off) (hs : P.cellsOf f.type = d.sz) (h : Opn P f.type d Q) : OpnFs P fs i off d Q := by
  intro H enc W n cs g hl
  obtain ⟨y, hy⟩ := g i f (Nat.le_refl _) hf
  rw [ho, hs, List.take_of_length_le (by rw [List.length_drop]; omega)] at hy
  exact h H enc W n _ y hy

theorem opnFs_cons {α β : Type} {P : Program} {fs : Array Field} {i off : Nat} {d : Kd α} {d2 : Kd β} {Q : α → Prop} {Q2 : β → Prop} (f : Field) (hf : fs[i]? = some f) (ho : f.offset = off) (hs : P.cellsOf f.type = d.sz) (h : Opn P f.type d Q)
    (h2 : OpnFs P fs (i + 1) (off + d.sz) d2 Q2) : OpnFs P fs i off (Kd.pair d d2) (fun p => Q p.1 ∧ Q2 p.2) := by
  intro H enc W n cs g hl
  obtain ⟨y, hy⟩ := g i f (Nat.le_refl _) hf
  rw [ho, hs] at hy
  have hl' : cs.length = off + (d.sz + d2.sz) := hl
  obtain ⟨a, ha, qa⟩ := h H enc W n _ y hy
  obtain ⟨b, hb, qb⟩ := h2 H enc W n cs (fun j f hj => g j f (by omega)) (by omega)
  refine ⟨(a, b), ⟨(cs.drop off).take d.sz, cs.drop (off + d.sz), ?_, ha, hb⟩, qa, qb⟩
  rw [← List.drop_drop, List.take_append_drop]

theorem opn_struct {α β : Type} {P : Program} {T : TypeId} {fs : Array Field} {d : Kd α} {Q : α → Prop} {f : β → α} (g : α → β) (hg : ∀ a, f (g a) = a) (hu : P.underlying T = some (.struct fs)) (hc : P.cellsOf T = d.sz) (h : OpnFs P fs 0 0 d Q) :
    Opn P T (Kd.iso d f) (fun b => Q (f b)) := by
  intro H enc W fuel cs x hx
  obtain ⟨xs, n, _, _, hl, hlen, hf⟩ := DataW.trod_struct hu hx
  obtain ⟨a, ha, qa⟩ := h H enc W n cs (fun j f _ hj => by
    have := hf j f hj
    have hj2 : j < xs.length := by
      have := (Array.getElem?_eq_some_iff.1 hj).1
      omega
    rw [List.getElem?_eq_getElem hj2] at this
    exact ⟨_, this⟩) (by rw [hl, hc]; omega)
  refine ⟨g a, ?_, ?_⟩
  · show d.K W (f (g a)) cs
    rw [hg]
    simpa using ha
  · show Q (f (g a))
    rw [hg]
    exact qa

theorem cells_each {w : World} {a : Addr} {n : Nat} {cs : List Value} (h : w.cells? 0 a n = some cs) : cs.length = n ∧ ∀ i u, cs[i]? = some u → w.cell? (a.add i) = some u := by
  simp only [World.cells?, Nat.zero_le, if_true] at h
  have hl : cs.length = n := by have := mapM_some_length h; simpa using this
  refine ⟨hl, fun i u hu => ?_⟩
  have hi : i < n := by
    have := (List.getElem?_eq_some_iff.1 hu).1
    omega
  rw [← hu]
  exact mapM_some_get h i i (by rw [List.getElem?_range hi])

theorem opn_slice {α : Type} {P : Program} {T e : TypeId} {d : Kd α} {Q : α → Prop} (E : Nat) (hu : P.underlying T = some (.slice e)) (hc : P.cellsOf e = d.sz) (he : Opn P e d Q) :
    Opn P T (Kd.slice E d) (fun l => l.length ≤ maxLen ∧ ∀ x ∈ l, Q x) := by
  intro H enc W fuel cs x hx
  rcases Go.Deep.open_slice hu hx with ⟨rfl, _⟩ | ⟨a, len, cap, m, n, D, Pl, rfl, _, hlc, hcm, hm, _, hel⟩
  · exact ⟨[], ⟨none, 0, rfl, Nat.le_refl _, rfl, by simp, fun h => absurd h (by simp)⟩, by simp, by simp⟩
  have hel' : ∀ i, i < len → ∃ y, (∃ c, W.cells? 0 (a.add (i * P.cellsOf e)) (P.cellsOf e) = some c ∧ d.K W y c) ∧ Q y := by
    intro i hi
    obtain ⟨c, h1, h2⟩ := hel i (by rw [hm]; simp; omega)
    obtain ⟨y, hy, hq⟩ := he H enc W n c _ h2
    exact ⟨y, ⟨c, h1, hy⟩, hq⟩
  have hex : ∃ l : List α, l.length = len ∧ ∀ i y, l[i]? = some y → (∃ c, W.cells? 0 (a.add (i * P.cellsOf e)) (P.cellsOf e) = some c ∧ d.K W y c) ∧ Q y := by
    revert hel'
    generalize len = q
    intro hel'
    clear hx hel
    induction q with
    | zero => exact ⟨[], rfl, by simp⟩
    | succ k ih =>
      obtain ⟨l, hl, hp⟩ := ih (fun i hi => hel' i (by omega))
      obtain ⟨y, hy⟩ := hel' k (by omega)
      refine ⟨l ++ [y], by simp [hl], fun i z hz => ?_⟩
      by_cases hi : i < l.length
      · rw [List.getElem?_append_left hi] at hz
        exact hp i z hz
      · have : i = k := by
          have := (List.getElem?_eq_some_iff.1 hz).1
          simp at this
          omega
        subst this
        rw [List.getElem?_append_right (by omega), hl] at hz
        simp at hz
        subst hz
        exact hy
  obtain ⟨l, hl, hp⟩ := hex
  refine ⟨l, ⟨some a, cap, by rw [hl], by omega, rfl, ?_, fun _ => ⟨a, rfl, ?_⟩⟩, by rw [hl]; omega, ?_⟩
  · rw [hl]
    simp only [maxLen] at hcm
    omega
  · intro j y hj
    obtain ⟨⟨c, h1, h2⟩, _⟩ := hp j y hj
    obtain ⟨h3, h4⟩ := cells_each h1
    refine ⟨c, by rw [h3, hc], h2, fun i u hi => ?_⟩
    rw [← hc, ← Go.Deep.add_add]
    exact h4 i u hi
  · intro y hy
    obtain ⟨i, hi, rfl⟩ := List.getElem_of_mem hy
    exact (hp i _ (List.getElem?_eq_getElem hi)).2

/-- A slice that is an argument. -/
theorem opn_slice_val {α : Type} {H : Type} {enc : TypeId × Value → H} {P : Program} {W : World} {T : TypeId} {E : Nat} {d : Kd α} {Q : List α → Prop} (h : Opn P T (Kd.slice E d) Q) {a : Option Addr} {len cap : Nat} {x : DataW H} {ps : List MemPlace}
    (ht : DataW.Trod enc P W 0 (fun _ => true) true T (.slice a len cap) x ps) : ∃ l : List α, len = l.length ∧ l.length ≤ cap ∧ d.C W a l.length l ∧ Q l := by
  obtain ⟨fuel, hf⟩ := ht
  obtain ⟨l, ⟨A, c, hcs, hl, hr⟩, hq⟩ := h H enc W fuel _ _ hf
  simp [Value.cells] at hcs
  obtain ⟨rfl, rfl, rfl⟩ := hcs
  exact ⟨l, rfl, hl, hr, hq⟩

end Go.Proofs.Yteinfbfaijjknaa.Opens

/- What each argument type of these statements reads as. Conditions: none of our own. -/
namespace Go.Proofs.Yteinfbfaijjknaa
open Go.RowKit Go.Proofs.YteinfbfaijjknaaW.PrintWords Go.Proofs.Yteinfbfaijjknaa.Opens

/-- loop.example/g01020/laws.Appliance: what holds of its fields. -/
def Wf23 (x : P.S23) : Prop := (x.f0.size ≤ maxLen) ∧ ((Lit.int .i64 x.f1).wf = true) ∧ ((Lit.int .i64 x.f2).wf = true) ∧ ((Lit.int .i64 x.f3).wf = true) ∧ ((Lit.int .i64 x.f4).wf = true)
theorem opn23 : Opn Try.prog 23 P.k23 Wf23 := opn_struct (f := (fun x : P.S23 => (x.f0, x.f1, x.f2, x.f3, x.f4))) (fun a => (⟨a.1, a.2.1, a.2.2.1, a.2.2.2.1, a.2.2.2.2⟩ : P.S23)) (fun _ => rfl) Try.underlying23 (by kernel_rfl) (opnFs_cons _ rfl rfl (by kernel_rfl) (opn_string Try.underlying9) (opnFs_cons _ rfl rfl (by kernel_rfl) (opn_int Try.underlying3) (opnFs_cons _ rfl rfl (by kernel_rfl) (opn_int Try.underlying3) (opnFs_cons _ rfl rfl (by kernel_rfl) (opn_int Try.underlying3) (opnFs_last _ rfl rfl (by kernel_rfl) (opn_int Try.underlying3))))))
end Go.Proofs.Yteinfbfaijjknaa

/- The pure statement of FnExactShareCrew. -/
namespace Go.Proofs.Yteinfbfaijjknaa
open Go.RowKit Go.Proofs.YteinfbfaijjknaaW.PrintWords
/-- What is left of the statement: numbers and lists alone. -/
def FnExactShareCrew.Said : Prop := ∀ (l0 : List P.S23) (a1 : ByteArray) (a2 : ByteArray) (a3 : Int), (l0.length ≤ maxLen ∧ ∀ y ∈ l0, Wf23 y) → a1.size ≤ maxLen → a2.size ≤ maxLen → (Lit.int .i64 a3).wf = true → ∃ k, P.laws_FnExactShareCrew.f k l0 a1 a2 a3 = some true
end Go.Proofs.Yteinfbfaijjknaa

/- Plain lemmas on rounds, wraps, loops and lists, with no program in sight. -/
namespace Go.Proofs.Yteinfbfaijjknaa
open Go.RowKit Go.Proofs.YteinfbfaijjknaaW.PrintWords
set_option linter.unusedSimpArgs false
set_option linter.unusedVariables false

theorem bound_i64 {a : Int} (h : (Lit.int .i64 a).wf = true) : -9223372036854775808 ≤ a ∧ a ≤ 9223372036854775807 := by
  simp only [Lit.wf, IntKind.min, IntKind.max, IntKind.signed, IntKind.bits, Bool.and_eq_true, decide_eq_true_eq, if_true] at h
  omega
theorem w64 {x : Int} (h0 : -9223372036854775808 ≤ x) (h1 : x ≤ 9223372036854775807) : wrap64 x = x := by
  unfold wrap64
  omega
theorem w64_succ {i : Nat} (h : i < 4611686018427387904) : wrap64 ((i : Int) + 1) = ((i + 1 : Nat) : Int) := by
  unfold wrap64
  omega
theorem some_dec {p q : Prop} [Decidable p] [Decidable q] (h : p ↔ q) : some (decide p) = some (decide q) := by simp [h]
theorem some_t {q : Prop} [Decidable q] (h : q) : some true = some (decide q) := by simp [h]
theorem some_f {q : Prop} [Decidable q] (h : ¬ q) : some false = some (decide q) := by simp [h]
theorem bind_if {α : Type} {c : Prop} [Decidable c] (f : Bool → Option α) : (some (decide c)).bind f = if c then f true else f false := by
  by_cases h : c <;> simp [h]
theorem bind_ifb {α : Type} (c : Bool) (f : Bool → Option α) : (some c).bind f = if c = true then f true else f false := by
  cases c <;> simp

/-! ### A loop with rounds: what it comes to -/
section
variable {σ ρ : Type}
def runFrom (step : Nat → σ → σ ⊕ ρ) (fin : σ → ρ) : Nat → Nat → σ → ρ
  | 0, _, s => fin s
  | d + 1, i, s => match step i s with
    | .inl s' => runFrom step fin d (i + 1) s'
    | .inr r => r
theorem run_loop {F : Nat → σ → Int → Option ρ} {n : Nat} (step : Nat → σ → σ ⊕ ρ) (fin : σ → ρ) (Inv : Nat → σ → Prop)
    (hs : ∀ k i s, i < n → Inv i s → F (k + 1) s (i : Int) = match step i s with | .inl s' => F k s' ((i + 1 : Nat) : Int) | .inr r => some r)
    (hi : ∀ i s s', i < n → Inv i s → step i s = .inl s' → Inv (i + 1) s')
    (he : ∀ k s, Inv n s → F (k + 1) s (n : Int) = some (fin s)) :
    ∀ (d i : Nat) (s : σ) (k : Nat), i + d = n → d < k → Inv i s → F k s (i : Int) = some (runFrom step fin d i s) := by
  intro d
  induction d with
  | zero =>
    intro i s k h hk hI
    obtain ⟨k, rfl⟩ : ∃ m, k = m + 1 := ⟨k - 1, by omega⟩
    obtain rfl : i = n := by omega
    exact he k s hI
  | succ d ih =>
    intro i s k h hk hI
    obtain ⟨k, rfl⟩ : ∃ m, k = m + 1 := ⟨k - 1, by omega⟩
    rw [hs k i s (by omega) hI]
    simp only [runFrom]
    cases hst : step i s with
    | inl s' => exact ih (i + 1) s' k (by omega) (by omega) (hi i s s' (by omega) hI hst)
    | inr r => rfl
end
/-- All from i on, d of them. -/
def allFrom (p : Nat → Bool) : Nat → Nat → Bool
  | 0, _ => true
  | d + 1, i => p i && allFrom p d (i + 1)
theorem allFrom_iff (p : Nat → Bool) : ∀ (d i : Nat), allFrom p d i = true ↔ ∀ j, i ≤ j → j < i + d → p j = true
  | 0, i => by simp [allFrom]; intro j h1 h2; omega
  | d + 1, i => by
    simp only [allFrom, Bool.and_eq_true, allFrom_iff p d (i + 1)]
    constructor
    · intro ⟨h, hh⟩ j h1 h2
      by_cases e : j = i
      · rw [e]; exact h
      · exact hh j (by omega) (by omega)
    · intro h
      exact ⟨h i (Nat.le_refl _) (by omega), fun j h1 h2 => h j (by omega) (by omega)⟩
theorem allFrom_congr {p q : Nat → Bool} : ∀ (d i : Nat), (∀ j, i ≤ j → j < i + d → p j = q j) → allFrom p d i = allFrom q d i
  | 0, _, _ => rfl
  | d + 1, i, h => by simp only [allFrom]; rw [h i (Nat.le_refl _) (by omega), allFrom_congr d (i + 1) (fun j h1 h2 => h j (by omega) (by omega))]
/-- A loop that goes on while p holds, else says false. -/
theorem all_loop {F : Nat → Int → Option Bool} {n : Nat} (p : Nat → Bool)
    (hs : ∀ k i, i < n → (∀ j, j < i → p j = true) → F (k + 1) (i : Int) = if p i = true then F k ((i + 1 : Nat) : Int) else some false)
    (he : ∀ k, F (k + 1) (n : Int) = some true) :
    ∀ (d i : Nat) (k : Nat), i + d = n → d < k → (∀ j, j < i → p j = true) → F k (i : Int) = some (allFrom p d i) := by
  intro d
  induction d with
  | zero =>
    intro i k h hk hI
    obtain ⟨k, rfl⟩ : ∃ m, k = m + 1 := ⟨k - 1, by omega⟩
    obtain rfl : i = n := by omega
    exact he k
  | succ d ih =>
    intro i k h hk hI
    obtain ⟨k, rfl⟩ : ∃ m, k = m + 1 := ⟨k - 1, by omega⟩
    rw [hs k i (by omega) hI]
    simp only [allFrom]
    by_cases hp : p i = true
    · rw [if_pos hp, hp, Bool.true_and]
      refine ih (i + 1) k (by omega) (by omega) (fun j hj => ?_)
      by_cases e : j = i
      · rw [e]; exact hp
      · exact hI j (by omega)
    · rw [if_neg hp]
      simp [Bool.eq_false_iff.2 hp]

/-! ### Lists -/
theorem fill_set {α : Type} (A : List α) (d : Nat) (z v : α) : (A ++ List.replicate (d + 1) z).set A.length v = (A ++ [v]) ++ List.replicate d z := by
  rw [List.set_append_right _ _ (by omega), Nat.sub_self, List.replicate_succ, List.set_cons_zero, List.append_assoc]
  rfl
theorem take_map_succ {α β : Type} (f : α → β) (l : List α) (z : α) (i : Nat) (h : i < l.length) : (l.take (i + 1)).map f = (l.take i).map f ++ [f (l.getD i z)] := by
  rw [List.take_succ_eq_append_getElem h, List.map_append]
  simp [List.getD_eq_getElem?_getD, List.getElem?_eq_getElem h]
theorem set_split {α : Type} (l : List α) (i : Nat) (h : i < l.length) (v : α) : l.set i v = l.take i ++ v :: l.drop (i + 1) := List.set_eq_take_append_cons_drop .. |>.trans (by rw [if_pos h])

/-- A loop that goes on while p holds, else says false; behind the last one it says b. -/
theorem all_loop_end {F : Nat → Int → Option Bool} {n : Nat} (p : Nat → Bool) (b : Bool) (K : Nat)
    (hs : ∀ k i, K ≤ k → i < n → (∀ j, j < i → p j = true) → F (k + 1) (i : Int) = if p i = true then F k ((i + 1 : Nat) : Int) else some false)
    (he : ∀ k, K ≤ k → (∀ j, j < n → p j = true) → F (k + 1) (n : Int) = some b) :
    ∀ (d i : Nat) (k : Nat), i + d = n → K + d < k → (∀ j, j < i → p j = true) → F k (i : Int) = some (allFrom p d i && b) := by
  intro d
  induction d with
  | zero =>
    intro i k h hk hI
    obtain ⟨k, rfl⟩ : ∃ m, k = m + 1 := ⟨k - 1, by omega⟩
    obtain rfl : i = n := by omega
    rw [he k (by omega) hI]
    simp [allFrom]
  | succ d ih =>
    intro i k h hk hI
    obtain ⟨k, rfl⟩ : ∃ m, k = m + 1 := ⟨k - 1, by omega⟩
    rw [hs k i (by omega) (by omega) hI]
    simp only [allFrom]
    by_cases hp : p i = true
    · rw [if_pos hp, hp, Bool.true_and]
      refine ih (i + 1) k (by omega) (by omega) (fun j hj => ?_)
      by_cases e : j = i
      · rw [e]; exact hp
      · exact hI j (by omega)
    · rw [if_neg hp]
      simp [Bool.eq_false_iff.2 hp]
theorem allFrom_true : ∀ d i, allFrom (fun _ => true) d i = true
  | 0, _ => rfl
  | d + 1, i => by simp [allFrom, allFrom_true d]

/-! ### A copy, element by element; marks, and their test -/
theorem copy_loop {α β : Type} (F : Nat → List β → Int → Option (List β)) (l : List α) (za : α) (conv : α → β) (z : β) (K : Nat)
    (hs : ∀ k i d (B : List β), K ≤ k → i + d + 1 = l.length → B.length = i → F (k + 1) (B ++ List.replicate (d + 1) z) (i : Int) = F k ((B ++ [conv (l.getD i za)]) ++ List.replicate d z) ((i + 1 : Nat) : Int))
    (he : ∀ k (B : List β), K ≤ k → B.length = l.length → F (k + 1) B (l.length : Int) = some B) :
    ∀ (d i k : Nat), i + d = l.length → K + d < k → F k ((l.take i).map conv ++ List.replicate d z) (i : Int) = some (l.map conv) := by
  intro d
  induction d with
  | zero =>
    intro i k h hk
    obtain ⟨k, rfl⟩ : ∃ m, k = m + 1 := ⟨k - 1, by omega⟩
    obtain rfl : i = l.length := by omega
    rw [List.take_length, List.replicate_zero, List.append_nil]
    exact he k _ (by omega) (by simp)
  | succ d ih =>
    intro i k h hk
    obtain ⟨k, rfl⟩ : ∃ m, k = m + 1 := ⟨k - 1, by omega⟩
    rw [hs k i d _ (by omega) (by omega) (by simp; omega), ← take_map_succ conv l za i (by omega)]
    exact ih (i + 1) k (by omega) (by omega)
section
variable {α : Type}
def marked (mk : Int → α → α) (w : Int) : Int → List α → List α
  | _, [] => []
  | m, x :: l => mk m x :: marked mk w (m + w) l
theorem marked_length (mk : Int → α → α) (w : Int) : ∀ (l : List α) (m : Int), (marked mk w m l).length = l.length
  | [], _ => rfl
  | x :: l, m => by show (marked mk w (m + w) l).length + 1 = l.length + 1; rw [marked_length mk w l]
theorem mark_loop (F : Nat → List α → Int → Int → Option (Int × List α)) (mk : Int → α → α) (w : Nat) (K : Nat)
    (hs : ∀ k (A : List α) (x : α) (l : List α) (m : Int), K ≤ k → 0 ≤ m → m + w ≤ 1000000000 → A.length + l.length < 1048577 → F (k + 1) (A ++ x :: l) m (A.length : Int) = F k (A ++ mk m x :: l) (m + w) ((A.length + 1 : Nat) : Int))
    (he : ∀ k (A : List α) (m : Int), F (k + 1) A m (A.length : Int) = some (m, A)) :
    ∀ (l A : List α) (m : Int) (k : Nat), A.length + l.length ≤ 1048576 → 0 ≤ m → m + w * l.length ≤ 1000000000 → K + l.length < k → F k (A ++ l) m (A.length : Int) = some (m + w * l.length, A ++ marked mk w m l) := by
  intro l
  induction l with
  | nil =>
    intro A m k h h0 h1 hk
    obtain ⟨k, rfl⟩ : ∃ m, k = m + 1 := ⟨k - 1, by omega⟩
    rw [List.append_nil, he]
    simp [marked]
  | cons x l ih =>
    intro A m k h h0 h1 hk
    simp only [List.length_cons] at h h1 hk
    have hw : (w : Int) * ((l.length + 1 : Nat) : Int) = w * (l.length : Int) + w := by rw [Int.natCast_add, Int.mul_add]; simp
    have hn : 0 ≤ (w : Int) * (l.length : Int) := Int.mul_nonneg (by omega) (by omega)
    obtain ⟨k, rfl⟩ : ∃ m, k = m + 1 := ⟨k - 1, by omega⟩
    rw [hs k A x l m (by omega) h0 (by omega) (by omega)]
    have := ih (A ++ [mk m x]) (m + w) k (by simp; omega) (by omega) (by omega) (by omega)
    rw [List.length_append, List.length_singleton, List.append_assoc, List.singleton_append] at this
    rw [this, List.append_assoc, List.singleton_append, List.length_cons, hw, Int.add_assoc, Int.add_comm (w : Int)]
    rfl
theorem held_loop (F : Nat → List α → Int → Int → Option Int) (mk : Int → α → α) (w : Nat) (K : Nat)
    (hs : ∀ k (A : List α) (x : α) (l : List α) (m : Int), K ≤ k → 0 ≤ m → m + w ≤ 1000000000 → A.length + l.length < 1048577 → F (k + 1) (A ++ mk m x :: l) m (A.length : Int) = F k (A ++ mk m x :: l) (m + w) ((A.length + 1 : Nat) : Int))
    (he : ∀ k (A : List α) (m : Int), F (k + 1) A m (A.length : Int) = some m) :
    ∀ (l A : List α) (m : Int) (k : Nat), A.length + l.length ≤ 1048576 → 0 ≤ m → m + w * l.length ≤ 1000000000 → K + l.length < k → F k (A ++ marked mk w m l) m (A.length : Int) = some (m + w * l.length) := by
  intro l
  induction l with
  | nil =>
    intro A m k h h0 h1 hk
    obtain ⟨k, rfl⟩ : ∃ m, k = m + 1 := ⟨k - 1, by omega⟩
    have hm : marked mk w m [] = [] := rfl
    rw [hm, List.append_nil, he]
    simp
  | cons x l ih =>
    intro A m k h h0 h1 hk
    simp only [List.length_cons] at h h1 hk
    have hw : (w : Int) * ((l.length + 1 : Nat) : Int) = w * (l.length : Int) + w := by rw [Int.natCast_add, Int.mul_add]; simp
    have hn : 0 ≤ (w : Int) * (l.length : Int) := Int.mul_nonneg (by omega) (by omega)
    obtain ⟨k, rfl⟩ : ∃ m, k = m + 1 := ⟨k - 1, by omega⟩
    have hm : marked mk w m (x :: l) = mk m x :: marked mk w (m + w) l := rfl
    rw [hm, hs k A x _ m (by omega) h0 (by omega) (by rw [marked_length]; omega)]
    have := ih (A ++ [mk m x]) (m + w) k (by simp; omega) (by omega) (by omega) (by omega)
    rw [List.length_append, List.length_singleton, List.append_assoc, List.singleton_append] at this
    rw [this, List.length_cons, hw, Int.add_assoc, Int.add_comm (w : Int)]
end
theorem set_mid {α : Type} (A : List α) (v u : α) (l : List α) : (A ++ v :: l).set A.length u = A ++ u :: l := by
  rw [List.set_append_right _ _ (by omega), Nat.sub_self, List.set_cons_zero]
theorem getD_mid {α : Type} (A : List α) (v : α) (l : List α) (z : α) : (A ++ v :: l).getD A.length z = v := by
  simp [List.getD_eq_getElem?_getD]
end Go.Proofs.Yteinfbfaijjknaa

/- 'inside' on both sides. Conditions: none. -/
namespace Go.Proofs.Yteinfbfaijjknaa
open Go.RowKit Go.Proofs.YteinfbfaijjknaaW.PrintWords
theorem inside_eq (a b c : Int) : P.impl_inside.f a b c = some (decide (b ≤ a ∧ a ≤ c)) := by
  unfold P.impl_inside.f
  split
  · exact some_dec (by omega)
  · exact some_f (by omega)
theorem l1In_eq (a b c : Int) : P.spec_l1In.f a b c = some (decide (b ≤ a ∧ a ≤ c)) := by
  unfold P.spec_l1In.f
  split
  · exact some_dec (by omega)
  · exact some_f (by omega)
theorem inside_l1In (a b c : Int) : P.impl_inside.f a b c = P.spec_l1In.f a b c := by rw [inside_eq, l1In_eq]
theorem w64_pred {i : Nat} (h : 0 < i) (hh : i < 4611686018427387904) : wrap64 ((i : Int) - 1) = ((i - 1 : Nat) : Int) := by
  unfold wrap64
  omega
end Go.Proofs.Yteinfbfaijjknaa

/- Appliances: both sides say the same of a name, of an appliance and of a fleet. Conditions: none beyond those of each lemma. -/
namespace Go.Proofs.Yteinfbfaijjknaa
open Go.RowKit Go.Proofs.YteinfbfaijjknaaW.PrintWords
set_option linter.unusedSimpArgs false
set_option linter.unusedVariables false
abbrev Ap := P.S26
abbrev LAp := P.S23
def toAp (x : LAp) : Ap := ⟨x.f0, x.f1, x.f2, x.f3, x.f4⟩
def chOk (s : ByteArray) (i : Nat) : Bool := decide ((97 ≤ bt s i ∧ bt s i ≤ 122) ∨ (48 ≤ bt s i ∧ bt s i ≤ 57 ∧ i ≠ 0))
def nameB (s : ByteArray) : Bool := allFrom (chOk s) s.size 0 && decide (1 ≤ (s.size : Int) ∧ (s.size : Int) ≤ 6)
theorem apName_eq (s : ByteArray) (hs : s.size ≤ 1048576) (k : Nat) (hk : s.size < k) : P.spec_apName.f k s = some (nameB s) := by
  refine all_loop_end (F := fun k i => P.spec_apName.l0 k s i) (n := s.size) (chOk s) (decide (1 ≤ (s.size : Int) ∧ (s.size : Int) ≤ 6)) 0 (fun k i _ hi _ => ?_) (fun k _ _ => ?_) s.size 0 k (by omega) (by omega) (fun j hj => by omega)
  · simp only [P.spec_apName.l0]
    rw [if_pos (by omega), if_pos (by omega), w64_succ (by omega)]
    by_cases hp : chOk s i = true
    · rw [if_pos hp]
      simp only [chOk, decide_eq_true_eq] at hp
      repeat' split
      all_goals first | rfl | (exfalso; omega)
    · rw [if_neg hp]
      simp only [chOk, decide_eq_true_eq] at hp
      repeat' split
      all_goals first | rfl | (exfalso; omega)
  · simp only [P.spec_apName.l0]
    rw [if_neg (by omega), l1In_eq]
    rfl
theorem isName_eq (s : ByteArray) (hs : s.size ≤ 1048576) (k : Nat) (hk : s.size < k) : P.impl_isName.f k s = some (nameB s) := by
  refine all_loop_end (F := fun k i => P.impl_isName.l0 k s (s.size : Int) i) (n := s.size) (chOk s) (decide (1 ≤ (s.size : Int) ∧ (s.size : Int) ≤ 6)) 0 (fun k i _ hi _ => ?_) (fun k _ _ => ?_) s.size 0 k (by omega) (by omega) (fun j hj => by omega)
  · simp only [P.impl_isName.l0]
    rw [if_pos (by omega), if_pos (by omega), if_pos (by omega), w64_succ (by omega)]
    by_cases hp : chOk s i = true
    · rw [if_pos hp]
      simp only [chOk, decide_eq_true_eq] at hp
      repeat' split
      all_goals first | rfl | (exfalso; omega)
    · rw [if_neg hp]
      simp only [chOk, decide_eq_true_eq] at hp
      repeat' split
      all_goals first | rfl | (exfalso; omega)
  · simp only [P.impl_isName.l0]
    rw [if_neg (by omega), inside_eq]
    rfl
def goodB (x : Ap) : Bool := nameB x.f0 && decide ((0 ≤ x.f1 ∧ x.f1 ≤ 3) ∧ (0 ≤ x.f2 ∧ x.f2 ≤ 13) ∧ (1 ≤ x.f3 ∧ x.f3 ≤ 9) ∧ (0 ≤ x.f4 ∧ x.f4 ≤ 5))
theorem and4 (p q r s : Prop) [Decidable p] [Decidable q] [Decidable r] [Decidable s] : (if p then if q then if r then some (decide s) else some false else some false else some false) = some (decide (p ∧ q ∧ r ∧ s)) := by
  by_cases hp : p <;> by_cases hq : q <;> by_cases hr : r <;> simp [hp, hq, hr]
theorem apGood_eq (x : Ap) (hs : x.f0.size ≤ 1048576) (k : Nat) (hk : x.f0.size < k) : P.spec_apGood.f k x.f0 x.f1 x.f2 x.f3 x.f4 = some (goodB x) := by
  simp only [P.spec_apGood.f, apName_eq _ hs k hk, P.spec_apNode.f, P.spec_apState.f, l1In_eq, bind_if, Option.bind_some, if_true, if_false, Bool.false_eq_true, and4, goodB]
  cases nameB x.f0 <;> simp
theorem isAppliance_eq (x : Ap) (hs : x.f0.size ≤ 1048576) (k : Nat) (hk : x.f0.size < k) : P.impl_isAppliance.f k x.f0 x.f1 x.f2 x.f3 x.f4 = some (goodB x) := by
  simp only [P.impl_isAppliance.f, isName_eq _ hs k hk, P.impl_isState.f, inside_eq, bind_if, Option.bind_some, if_true, if_false, Bool.false_eq_true, and4, goodB]
  cases nameB x.f0 <;> simp
theorem toAppliance_eq (a : ByteArray) (b c d e : Int) : P.laws_toAppliance.f a b c d e = some (a, b, c, d, e) := rfl
theorem szAppliance_eq (a : ByteArray) (b c d e left : Int) (ha : a.size ≤ maxLen) (h0 : 0 ≤ left) (h1 : left ≤ 1048576) : P.laws_szAppliance.f a b c d e left = some (if (a.size : Int) ≤ left then left - a.size else -1) := by
  unfold maxLen at ha
  simp only [P.laws_szAppliance.f]
  rw [w64 (by omega) (by omega)]
  by_cases h : (a.size : Int) ≤ left
  · rw [if_neg (by omega), if_pos h]
  · rw [if_pos (by omega), if_neg h]
/-! ### Slices -/
def ap (l : List Ap) (j : Nat) : Ap := l.getD j P.z26
theorem rd_ap (l : List Ap) (j : Nat) : P.rd_T26 l (j : Int) = ap l j := by simp [P.rd_T26, ap]
/-- Short names. -/
def Short (l : List Ap) : Prop := l.length ≤ 1048576 ∧ ∀ x ∈ l, x.f0.size ≤ 1048576
theorem Short.at_ {l : List Ap} (h : Short l) (j : Nat) (hj : j < l.length) : (ap l j).f0.size ≤ 1048576 := by
  have : ap l j = l[j] := by simp [ap, List.getD_eq_getElem?_getD, List.getElem?_eq_getElem hj]
  rw [this]
  exact h.2 _ (List.getElem_mem hj)
theorem toApplianceS_eq (l : List LAp) (hl : l.length ≤ 1048576) (k : Nat) (hk : l.length < k) : P.laws_toApplianceS.f k l = some (l.map toAp) := by
  simp only [P.laws_toApplianceS.f]
  rw [if_pos (by omega), if_pos (by omega)]
  refine copy_loop (F := fun k B i => P.laws_toApplianceS.l0 k l B i) l P.z23 toAp P.z26 0 (fun k i d B _ h hB => ?_) (fun k B _ hB => ?_) l.length 0 k (by omega) (by omega)
  · simp only [P.laws_toApplianceS.l0]
    have hf := fill_set B d P.z26 (toAp (l.getD i P.z23))
    rw [hB] at hf
    rw [if_pos (by omega), if_pos (by omega)]
    simp only [toAppliance_eq, Option.bind_some, P.rd_T23, Int.toNat_natCast]
    rw [if_pos (by simp; omega), w64_succ (by omega), ← hf]
    rfl
  · simp only [P.laws_toApplianceS.l0]
    rw [if_neg (by omega)]
theorem eqApplianceS_refl (l : List Ap) (hl : l.length ≤ 1048576) (k : Nat) (hk : l.length < k) : P.laws_eqApplianceS.f k l l = some true := by
  simp only [P.laws_eqApplianceS.f, if_true]
  have := all_loop_end (F := fun k i => P.laws_eqApplianceS.l0 k l l i) (n := l.length) (fun _ => true) true 0 (fun k i _ hi _ => ?_) (fun k _ _ => ?_) l.length 0 k (by omega) (by omega) (fun j hj => rfl)
  · rw [allFrom_true] at this
    exact this
  · simp only [P.laws_eqApplianceS.l0]
    rw [if_pos (by omega), if_pos (by omega), if_pos (by omega), w64_succ (by omega)]
    simp [P.laws_eqAppliance.f]
  · simp only [P.laws_eqApplianceS.l0]
    rw [if_neg (by omega)]
theorem szApplianceS_l0 (l : List LAp) (hw : ∀ x ∈ l, Wf23 x) (hl : l.length ≤ 1048576) : ∀ (d i : Nat) (left : Int), i + d = l.length → 0 ≤ left → left ≤ 1048576 →
    ∃ r : Int, (0 ≤ r → ∀ j, i ≤ j → (hj : j < l.length) → (l[j]).f0.size ≤ 1048576) ∧ ∀ k, d < k → P.laws_szApplianceS.l0 k l left i = some r := by
  intro d
  induction d with
  | zero =>
    intro i left h h0 h1
    refine ⟨left, fun _ j hj hj2 => absurd hj2 (by omega), fun k hk => ?_⟩
    obtain ⟨k, rfl⟩ : ∃ m, k = m + 1 := ⟨k - 1, by omega⟩
    simp only [P.laws_szApplianceS.l0]
    rw [if_neg (by omega)]
  | succ d ih =>
    intro i left h h0 h1
    have hi : i < l.length := by omega
    have hx := (hw _ (List.getElem_mem hi)).1
    have hr : P.rd_T23 l (i : Int) = l[i] := by simp [P.rd_T23, List.getD_eq_getElem?_getD, List.getElem?_eq_getElem hi]
    by_cases hc : ((l[i]).f0.size : Int) ≤ left
    · obtain ⟨r, hr1, hr2⟩ := ih (i + 1) (left - (l[i]).f0.size) (by omega) (by omega) (by omega)
      refine ⟨r, fun h0r j hj hj2 => ?_, fun k hk => ?_⟩
      · by_cases e : j = i
        · subst e; omega
        · exact hr1 h0r j (by omega) hj2
      · obtain ⟨k, rfl⟩ : ∃ m, k = m + 1 := ⟨k - 1, by omega⟩
        simp only [P.laws_szApplianceS.l0]
        rw [if_pos (by omega), if_pos (by omega), hr, szAppliance_eq _ _ _ _ _ left hx h0 h1, if_pos hc]
        simp only [Option.bind_some]
        rw [if_neg (by omega), w64_succ (by omega)]
        exact hr2 k (by omega)
    · refine ⟨-1, fun h => absurd h (by omega), fun k hk => ?_⟩
      obtain ⟨k, rfl⟩ : ∃ m, k = m + 1 := ⟨k - 1, by omega⟩
      simp only [P.laws_szApplianceS.l0]
      rw [if_pos (by omega), if_pos (by omega), hr, szAppliance_eq _ _ _ _ _ left hx h0 h1, if_neg hc]
      simp only [Option.bind_some]
      rw [if_pos (by omega)]
theorem szApplianceS_eq (l : List LAp) (hl : l.length ≤ maxLen) (hw : ∀ x ∈ l, Wf23 x) : ∃ r : Int, (0 ≤ r → l.length ≤ 1048576 ∧ Short (l.map toAp)) ∧ ∀ k, l.length < k → P.laws_szApplianceS.f k l 1048576 = some r := by
  unfold maxLen at hl
  by_cases h : l.length ≤ 1048576
  · obtain ⟨r, hr1, hr2⟩ := szApplianceS_l0 l hw h l.length 0 (1048576 - (l.length : Int)) (by omega) (by omega) (by omega)
    refine ⟨r, fun h0 => ⟨h, by simpa using h, fun x hx => ?_⟩, fun k hk => ?_⟩
    · obtain ⟨y, hy, rfl⟩ := List.mem_map.1 hx
      obtain ⟨j, hj, rfl⟩ := List.getElem_of_mem hy
      exact hr1 h0 j (by omega) hj
    · simp only [P.laws_szApplianceS.f]
      rw [w64 (by omega) (by omega), if_neg (by omega)]
      exact hr2 k (by omega)
  · refine ⟨-1, fun h => absurd h (by omega), fun k hk => ?_⟩
    simp only [P.laws_szApplianceS.f]
    rw [w64 (by omega) (by omega), if_pos (by omega)]
/-! ### A fleet -/
def apOk (l : List Ap) (j : Nat) : Bool := goodB (ap l j) && (decide (j = 0) || Op.bytesLess (ap l (j - 1)).f0.toList (ap l j).f0.toList)
def fleetB (l : List Ap) : Bool := allFrom (apOk l) l.length 0 && decide ((l.length : Int) ≤ 12)
theorem apFleet_eq (l : List Ap) (hl : Short l) (k : Nat) (hk : 2100000 < k) : P.spec_apFleet.f k l = some (fleetB l) := by
  have hll := hl.1
  refine all_loop_end (F := fun k i => P.spec_apFleet.l0 k l l (l.length : Int) i) (n := l.length) (apOk l) (decide ((l.length : Int) ≤ 12)) 1048577 (fun k i hk hi _ => ?_) (fun k _ _ => ?_) l.length 0 k (by omega) (by omega) (fun j hj => by omega)
  · simp only [P.spec_apFleet.l0]
    have hsz := hl.at_ i hi
    rw [if_pos (by omega), if_pos (by omega), if_pos (by omega), w64_succ (by omega), rd_ap, apGood_eq _ hsz k (by omega)]
    simp only [Option.bind_some]
    have e : apOk l i = (goodB (ap l i) && (decide (i = 0) || Op.bytesLess (ap l (i - 1)).f0.toList (ap l i).f0.toList)) := rfl
    by_cases hg : goodB (ap l i) = true
    · rw [if_pos hg]
      rw [hg, Bool.true_and] at e
      by_cases h0 : i = 0
      · rw [if_neg (by omega), if_pos (by rw [e, decide_eq_true h0]; rfl)]
      · rw [if_pos (by omega), w64_pred (by omega) (by omega), if_pos (by omega), if_pos (by omega), rd_ap]
        rw [decide_eq_false h0, Bool.false_or] at e
        rw [e]
    · rw [if_neg hg, if_neg (by rw [e, Bool.eq_false_iff.2 hg]; simp)]
  · simp only [P.spec_apFleet.l0]
    rw [if_neg (by omega)]
theorem isFleet_eq (l : List Ap) (hl : Short l) (k : Nat) (hk : 2100000 < k) : P.impl_isFleet.f k l = some (fleetB l) := by
  have hll := hl.1
  refine all_loop_end (F := fun k i => P.impl_isFleet.l0 k l l (l.length : Int) i) (n := l.length) (apOk l) (decide ((l.length : Int) ≤ 12)) 1048577 (fun k i hk hi _ => ?_) (fun k _ _ => ?_) l.length 0 k (by omega) (by omega) (fun j hj => by omega)
  · simp only [P.impl_isFleet.l0]
    have hsz := hl.at_ i hi
    rw [if_pos (by omega), if_pos (by omega), if_pos (by omega), w64_succ (by omega), rd_ap, isAppliance_eq _ hsz k (by omega)]
    simp only [Option.bind_some]
    have e : apOk l i = (goodB (ap l i) && (decide (i = 0) || Op.bytesLess (ap l (i - 1)).f0.toList (ap l i).f0.toList)) := rfl
    by_cases hg : goodB (ap l i) = true
    · rw [if_pos hg]
      rw [hg, Bool.true_and] at e
      by_cases h0 : i = 0
      · rw [if_neg (by omega), if_pos (by rw [e, decide_eq_true h0]; rfl)]
      · rw [if_pos (by omega), w64_pred (by omega) (by omega), if_pos (by omega), if_pos (by omega), rd_ap]
        rw [decide_eq_false h0, Bool.false_or] at e
        rw [e]
    · rw [if_neg hg, if_neg (by rw [e, Bool.eq_false_iff.2 hg]; simp)]
  · simp only [P.impl_isFleet.l0]
    rw [if_neg (by omega)]
theorem fleetB_spec {l : List Ap} (h : fleetB l = true) : l.length ≤ 12 ∧ ∀ j, j < l.length → goodB (ap l j) = true ∧ (0 < j → Op.bytesLess (ap l (j - 1)).f0.toList (ap l j).f0.toList = true) := by
  simp only [fleetB, Bool.and_eq_true, decide_eq_true_eq, allFrom_iff] at h
  refine ⟨by omega, fun j hj => ?_⟩
  have := h.1 j (by omega) (by omega)
  simp only [apOk, Bool.and_eq_true, Bool.or_eq_true, decide_eq_true_eq] at this
  exact ⟨this.1, fun h0 => this.2.resolve_left (by omega)⟩
theorem goodB_spec {x : Ap} (h : goodB x = true) : nameB x.f0 = true ∧ (0 ≤ x.f1 ∧ x.f1 ≤ 3) ∧ (0 ≤ x.f2 ∧ x.f2 ≤ 13) ∧ (1 ≤ x.f3 ∧ x.f3 ≤ 9) ∧ (0 ≤ x.f4 ∧ x.f4 ≤ 5) := by
  simp only [goodB, Bool.and_eq_true, decide_eq_true_eq] at h
  exact h
end Go.Proofs.Yteinfbfaijjknaa

/- The appliance with a name: both sides say the same. Conditions: none beyond those of each lemma. -/
namespace Go.Proofs.Yteinfbfaijjknaa
open Go.RowKit Go.Proofs.YteinfbfaijjknaaW.PrintWords
set_option linter.unusedSimpArgs false
set_option linter.unusedVariables false
def findFrom (l : List Ap) (s : ByteArray) : Nat → Nat → Int
  | 0, _ => -1
  | d + 1, i => if (ap l i).f0.toList = s.toList then (i : Int) else findFrom l s d (i + 1)
def findV (l : List Ap) (s : ByteArray) : Int := findFrom l s l.length 0
theorem findFrom_range (l : List Ap) (s : ByteArray) : ∀ d i, findFrom l s d i = -1 ∨ ((i : Int) ≤ findFrom l s d i ∧ findFrom l s d i < i + d)
  | 0, _ => .inl rfl
  | d + 1, i => by
    simp only [findFrom]
    split
    · right; omega
    · rcases findFrom_range l s d (i + 1) with h | h
      · exact .inl h
      · right; omega
theorem findV_range (l : List Ap) (s : ByteArray) : findV l s = -1 ∨ (0 ≤ findV l s ∧ findV l s < l.length) := by
  rcases findFrom_range l s l.length 0 with h | h
  · exact .inl h
  · right; unfold findV; omega
theorem apFind_eq (l : List Ap) (hl : l.length ≤ 1048576) (s : ByteArray) (k : Nat) (hk : l.length < k) : P.spec_apFind.f k l s = some (findV l s) := by
  have key : ∀ (d i k : Nat), i + d = l.length → d < k → P.spec_apFind.l0 k s l (l.length : Int) i = some (findFrom l s d i) := by
    intro d
    induction d with
    | zero =>
      intro i k h hk
      obtain ⟨k, rfl⟩ : ∃ m, k = m + 1 := ⟨k - 1, by omega⟩
      simp only [P.spec_apFind.l0]
      rw [if_neg (by omega)]
      rfl
    | succ d ih =>
      intro i k h hk
      obtain ⟨k, rfl⟩ : ∃ m, k = m + 1 := ⟨k - 1, by omega⟩
      simp only [P.spec_apFind.l0]
      rw [if_pos (by omega), if_pos (by omega), if_pos (by omega), rd_ap, w64_succ (by omega)]
      simp only [findFrom]
      by_cases hm : (ap l i).f0.toList = s.toList
      · rw [if_pos hm, if_pos hm]
      · rw [if_neg hm, if_neg hm]
        exact ih (i + 1) k (by omega) (by omega)
  exact key l.length 0 k (by omega) hk
theorem findAppliance_eq (l : List Ap) (hl : l.length ≤ 1048576) (s : ByteArray) (k : Nat) (hk : l.length < k) : P.impl_findAppliance.f k l s = some (findV l s) := by
  have key : ∀ (d i k : Nat), i + d = l.length → d < k → P.impl_findAppliance.l0 k l s i = some (findFrom l s d i) := by
    intro d
    induction d with
    | zero =>
      intro i k h hk
      obtain ⟨k, rfl⟩ : ∃ m, k = m + 1 := ⟨k - 1, by omega⟩
      simp only [P.impl_findAppliance.l0]
      rw [if_neg (by omega)]
      rfl
    | succ d ih =>
      intro i k h hk
      obtain ⟨k, rfl⟩ : ∃ m, k = m + 1 := ⟨k - 1, by omega⟩
      simp only [P.impl_findAppliance.l0]
      rw [if_pos (by omega), if_pos (by omega), rd_ap, w64_succ (by omega)]
      simp only [findFrom]
      by_cases hm : (ap l i).f0.toList = s.toList
      · rw [if_pos hm, if_pos hm]
      · rw [if_neg hm, if_neg hm]
        exact ih (i + 1) k (by omega) (by omega)
  exact key l.length 0 k (by omega) hk
end Go.Proofs.Yteinfbfaijjknaa

/- ShareCrew: both sides say the same. Conditions: none beyond those of each lemma. -/
namespace Go.Proofs.Yteinfbfaijjknaa
open Go.RowKit Go.Proofs.YteinfbfaijjknaaW.PrintWords
set_option linter.unusedSimpArgs false
set_option linter.unusedVariables false
theorem clone_eq (l : List Ap) (hl : l.length ≤ 1048576) : P.impl_Appliance_72.f l = some l := by
  unfold P.impl_Appliance_72.f
  rw [if_pos (by omega)]
theorem apWith_eq (l : List Ap) (hl : l.length ≤ 1048576) (i : Int) (x : Ap) (h0 : 0 ≤ i) (h1 : i < l.length) : P.spec_apWith.f l i x.f0 x.f1 x.f2 x.f3 x.f4 = some (l.set i.toNat x) := by
  simp only [P.spec_apWith.f, Option.bind_some, List.nil_append, List.length_nil]
  rw [if_pos (by omega), if_pos h0, if_pos h1]
def crewTo (x : Ap) (c : Int) : Ap := ⟨x.f0, x.f1, x.f2, c, x.f4⟩
theorem Short.set {l : List Ap} (h : Short l) (i : Nat) (hi : i < l.length) (c : Int) : Short (l.set i (crewTo (ap l i) c)) := by
  refine ⟨by simpa using h.1, fun x hx => ?_⟩
  rcases List.mem_or_eq_of_mem_set hx with hx | rfl
  · exact h.2 x hx
  · exact h.at_ i hi
theorem ap_set (l : List Ap) (i j : Nat) (x : Ap) (hi : i < l.length) : ap (l.set i x) j = if i = j then x else ap l j := by
  simp only [ap, List.getD_eq_getElem?_getD, List.getElem?_set]
  by_cases e : i = j
  · subst e; simp [hi]
  · simp [e]
theorem share_same (l : List Ap) (hs : Short l) (s t : ByteArray) (n : Int) : ∃ v : List Ap × Bool, v.1.length ≤ 1048576 ∧ ∀ k, 2100001 < k → P.spec_ShareCrew.f k l s t n = some v ∧ P.impl_ShareCrew.f k l s t n = some v := by
  have hl := hs.1
  have none_ : (∀ k, 2100000 < k → P.spec_ShareCrew.f (k + 1) l s t n = some ([], false) ∧ P.impl_ShareCrew.f (k + 1) l s t n = some ([], false)) → ∃ v : List Ap × Bool, v.1.length ≤ 1048576 ∧ ∀ k, 2100001 < k → P.spec_ShareCrew.f k l s t n = some v ∧ P.impl_ShareCrew.f k l s t n = some v := by
    intro h
    refine ⟨([], false), by simp, fun k hk => ?_⟩
    obtain ⟨k, rfl⟩ : ∃ m, k = m + 1 := ⟨k - 1, by omega⟩
    exact h k (by omega)
  by_cases hp : fleetB l = true
  · rcases findV_range l s with hf | hf
    · refine none_ (fun k hk => ?_)
      simp only [P.spec_ShareCrew.f, P.impl_ShareCrew.f, apFleet_eq l hs (k + 1) (by omega), isFleet_eq l hs (k + 1) (by omega), hp, Option.bind_some, if_true, apFind_eq l hl s (k + 1) (by omega), findAppliance_eq l hl s (k + 1) (by omega), apFind_eq l hl t (k + 1) (by omega), findAppliance_eq l hl t (k + 1) (by omega), hf, eq_true (show (-1 : Int) < 0 by omega), P.spec_ShareCrew.j0, P.impl_ShareCrew.j0, and_self]
    · rcases findV_range l t with hg | hg
      · refine none_ (fun k hk => ?_)
        simp only [P.spec_ShareCrew.f, P.impl_ShareCrew.f, apFleet_eq l hs (k + 1) (by omega), isFleet_eq l hs (k + 1) (by omega), hp, Option.bind_some, if_true, apFind_eq l hl s (k + 1) (by omega), findAppliance_eq l hl s (k + 1) (by omega), apFind_eq l hl t (k + 1) (by omega), findAppliance_eq l hl t (k + 1) (by omega), hg, eq_false (show ¬ findV l s < 0 by omega), if_false, eq_true (show (-1 : Int) < 0 by omega), P.spec_ShareCrew.j0, P.impl_ShareCrew.j0, and_self]
      · by_cases he : findV l s = findV l t
        · refine none_ (fun k hk => ?_)
          simp only [P.spec_ShareCrew.f, P.impl_ShareCrew.f, apFleet_eq l hs (k + 1) (by omega), isFleet_eq l hs (k + 1) (by omega), hp, Option.bind_some, if_true, apFind_eq l hl s (k + 1) (by omega), findAppliance_eq l hl s (k + 1) (by omega), apFind_eq l hl t (k + 1) (by omega), findAppliance_eq l hl t (k + 1) (by omega), he, eq_false (show ¬ findV l t < 0 by omega), if_false, P.spec_ShareCrew.j0, P.impl_ShareCrew.j0, and_self]
        · by_cases hn : 1 ≤ n ∧ n ≤ 8
          · have hi : P.rd_T26 l (findV l s) = ap l (findV l s).toNat := by simp [P.rd_T26, ap]
            have hj : P.rd_T26 l (findV l t) = ap l (findV l t).toNat := by simp [P.rd_T26, ap]
            by_cases hd : (ap l (findV l s).toNat).f2 = (ap l (findV l t).toNat).f2
            · have hne : (findV l s).toNat ≠ (findV l t).toNat := by omega
              have hw1 := apWith_eq l hl (findV l s) (crewTo (ap l (findV l s).toNat) (wrap64 ((ap l (findV l s).toNat).f3 - n))) hf.1 hf.2
              have hs1 := hs.set (findV l s).toNat (by omega) (wrap64 ((ap l (findV l s).toNat).f3 - n))
              have ha := ap_set l (findV l s).toNat (findV l t).toNat (crewTo (ap l (findV l s).toNat) (wrap64 ((ap l (findV l s).toNat).f3 - n))) (by omega)
              rw [if_neg hne] at ha
              generalize hL : l.set (findV l s).toNat (crewTo (ap l (findV l s).toNat) (wrap64 ((ap l (findV l s).toNat).f3 - n))) = L at hw1 hs1 ha
              have hLl : L.length = l.length := by rw [← hL]; simp
              have hjL : P.rd_T26 L (findV l t) = ap l (findV l t).toNat := by rw [← ha]; simp [P.rd_T26, ap]
              have hw2 := apWith_eq L hs1.1 (findV l t) (crewTo (ap l (findV l t).toNat) (wrap64 ((ap l (findV l t).toNat).f3 + n))) hg.1 (by omega)
              have hs2 := hs1.set (findV l t).toNat (by omega) (wrap64 ((ap l (findV l t).toNat).f3 + n))
              rw [ha] at hs2
              simp only [crewTo] at hw1 hw2 hs2 hL
              have hb : ((ap l (findV l s).toNat).f2 != (ap l (findV l t).toNat).f2) = false := by simp [hd]
              refine ⟨if fleetB (L.set (findV l t).toNat (⟨(ap l (findV l t).toNat).f0, (ap l (findV l t).toNat).f1, (ap l (findV l t).toNat).f2, wrap64 ((ap l (findV l t).toNat).f3 + n), (ap l (findV l t).toNat).f4⟩ : Ap)) = true then (L.set (findV l t).toNat (⟨(ap l (findV l t).toNat).f0, (ap l (findV l t).toNat).f1, (ap l (findV l t).toNat).f2, wrap64 ((ap l (findV l t).toNat).f3 + n), (ap l (findV l t).toNat).f4⟩ : Ap), true) else ([], false), ?_, fun k hk => ?_⟩
              · split
                · simp; omega
                · simp
              · obtain ⟨k, rfl⟩ : ∃ m, k = m + 1 := ⟨k - 1, by omega⟩
                have hLt : findV l t < (L.length : Int) := by omega
                simp only [P.spec_ShareCrew.f, P.impl_ShareCrew.f, apFleet_eq l hs (k + 1) (by omega), isFleet_eq l hs (k + 1) (by omega), hp, Option.bind_some, if_true, apFind_eq l hl s (k + 1) (by omega), findAppliance_eq l hl s (k + 1) (by omega), apFind_eq l hl t (k + 1) (by omega), findAppliance_eq l hl t (k + 1) (by omega), if_neg he, eq_false (show ¬ findV l s < 0 by omega), eq_false (show ¬ findV l t < 0 by omega), if_false, l1In_eq, inside_eq, decide_eq_true hn, eq_true hf.1, eq_true hf.2, eq_true hg.1, eq_true hg.2, hi, hj, hb,
                  P.spec_ShareCrew.j0, P.impl_ShareCrew.j0, Bool.false_eq_true, clone_eq l hl, hw1, hw2, hL, hjL, apFleet_eq _ hs2 k (by omega), isFleet_eq _ hs2 k (by omega)]
                split <;> exact ⟨rfl, rfl⟩
            · refine none_ (fun k hk => ?_)
              have hb : ((ap l (findV l s).toNat).f2 != (ap l (findV l t).toNat).f2) = true := by simp [hd]
              simp only [P.spec_ShareCrew.f, P.impl_ShareCrew.f, apFleet_eq l hs (k + 1) (by omega), isFleet_eq l hs (k + 1) (by omega), hp, Option.bind_some, if_true, apFind_eq l hl s (k + 1) (by omega), findAppliance_eq l hl s (k + 1) (by omega), apFind_eq l hl t (k + 1) (by omega), findAppliance_eq l hl t (k + 1) (by omega), if_neg he, eq_false (show ¬ findV l s < 0 by omega), eq_false (show ¬ findV l t < 0 by omega), if_false, l1In_eq, inside_eq, decide_eq_true hn, eq_true hf.1, eq_true hf.2, eq_true hg.1, eq_true hg.2, hi, hj, hb, P.spec_ShareCrew.j0, P.impl_ShareCrew.j0, and_self]
          · refine none_ (fun k hk => ?_)
            simp only [P.spec_ShareCrew.f, P.impl_ShareCrew.f, apFleet_eq l hs (k + 1) (by omega), isFleet_eq l hs (k + 1) (by omega), hp, Option.bind_some, if_true, apFind_eq l hl s (k + 1) (by omega), findAppliance_eq l hl s (k + 1) (by omega), apFind_eq l hl t (k + 1) (by omega), findAppliance_eq l hl t (k + 1) (by omega), if_neg he, eq_false (show ¬ findV l s < 0 by omega), eq_false (show ¬ findV l t < 0 by omega), if_false, l1In_eq, inside_eq, decide_eq_false hn, Bool.false_eq_true, P.spec_ShareCrew.j0, P.impl_ShareCrew.j0, and_self]
  · refine none_ (fun k hk => ?_)
    simp only [P.spec_ShareCrew.f, P.impl_ShareCrew.f, apFleet_eq l hs (k + 1) (by omega), isFleet_eq l hs (k + 1) (by omega), Option.bind_some, if_neg hp, apFind_eq l hl s (k + 1) (by omega), findAppliance_eq l hl s (k + 1) (by omega), apFind_eq l hl t (k + 1) (by omega), findAppliance_eq l hl t (k + 1) (by omega), if_true, P.spec_ShareCrew.j0, P.impl_ShareCrew.j0, and_self]
end Go.Proofs.Yteinfbfaijjknaa

/- The marks of appliances, and their test. Conditions: none beyond those of each lemma. -/
namespace Go.Proofs.Yteinfbfaijjknaa
open Go.RowKit Go.Proofs.YteinfbfaijjknaaW.PrintWords
set_option linter.unusedSimpArgs false
set_option linter.unusedVariables false
theorem strOfNums_size (x : Int) : (strOfNums [x]).size = 1 := by simp [strOfNums]; rfl
theorem markText_l0 : ∀ (d : Nat) (m : Int) (acc : ByteArray), 0 ≤ m → m < 10 ^ d → m ≤ 1000000000 → acc.size + d ≤ 1000000 → ∃ r : ByteArray, ∀ k, d < k → P.laws_markText.l0 k m acc = some r := by
  intro d
  induction d with
  | zero =>
    intro m acc h0 h1 hb hs
    refine ⟨(⟨#[109]⟩ : ByteArray) ++ acc, fun k hk => ?_⟩
    obtain ⟨k, rfl⟩ : ∃ m, k = m + 1 := ⟨k - 1, by omega⟩
    simp only [P.laws_markText.l0]
    rw [if_neg (by simp at h1; omega), if_pos (by omega)]
  | succ d ih =>
    intro m acc h0 h1 hb hs
    by_cases hm : m > 0
    · have hp : (10 : Int) ^ (d + 1) = 10 * 10 ^ d := by rw [Int.pow_succ, Int.mul_comm]
      have hp2 : (0 : Int) < 10 ^ d := Int.pow_pos (by omega)
      have hq : Int.tdiv m 10 = m / 10 := Int.tdiv_eq_ediv_of_nonneg (by omega)
      obtain ⟨r, hr⟩ := ih (m / 10) (strOfNums [(wrap64 (48 + (Int.tmod m 10))) % 256] ++ acc) (by omega) (by omega) (by omega) (by rw [ByteArray.size_append, strOfNums_size]; omega)
      refine ⟨r, fun k hk => ?_⟩
      obtain ⟨k, rfl⟩ : ∃ m, k = m + 1 := ⟨k - 1, by omega⟩
      simp only [P.laws_markText.l0, Option.bind_some]
      rw [if_pos hm, if_pos (by rw [strOfNums_size]; omega), hq, w64 (x := m / 10) (by omega) (by omega)]
      exact hr k (by omega)
    · refine ⟨(⟨#[109]⟩ : ByteArray) ++ acc, fun k hk => ?_⟩
      obtain ⟨k, rfl⟩ : ∃ m, k = m + 1 := ⟨k - 1, by omega⟩
      simp only [P.laws_markText.l0]
      rw [if_neg hm, if_pos (by omega)]
theorem markText_ends (m : Int) : ∃ r : ByteArray, 0 ≤ m → m ≤ 1000000000 → ∀ k, 11 < k → P.laws_markText.f k m = some r := by
  by_cases h : 0 ≤ m ∧ m ≤ 1000000000
  · by_cases h0 : m ≤ 0
    · exact ⟨(⟨#[109, 48]⟩ : ByteArray), fun _ _ k hk => by simp only [P.laws_markText.f]; rw [if_pos h0]⟩
    · obtain ⟨r, hr⟩ := markText_l0 10 m (⟨#[]⟩ : ByteArray) h.1 (by omega) h.2 (by show 0 + 10 ≤ 1000000; omega)
      exact ⟨r, fun _ _ k hk => by simp only [P.laws_markText.f]; rw [if_neg h0]; exact hr k (by omega)⟩
  · exact ⟨(⟨#[]⟩ : ByteArray), fun h0 h1 => absurd ⟨h0, h1⟩ h⟩
noncomputable def mtV (m : Int) : ByteArray := Classical.choose (markText_ends m)
theorem markText_eq (m : Int) (h0 : 0 ≤ m) (h1 : m ≤ 1000000000) (k : Nat) (hk : 11 < k) : P.laws_markText.f k m = some (mtV m) := Classical.choose_spec (markText_ends m) h0 h1 k hk
noncomputable def mkAp (m : Int) (_ : Ap) : Ap := ⟨mtV m, m + 1, m + 1 + 1, m + 1 + 1 + 1, m + 1 + 1 + 1 + 1⟩
theorem rd_ap_mid (A : List Ap) (v : Ap) (l : List Ap) : P.rd_T26 (A ++ v :: l) (A.length : Int) = v := by simp only [P.rd_T26, Int.toNat_natCast, getD_mid]
theorem markApplianceS_eq (l : List Ap) (hl : l.length ≤ 1048576) (k : Nat) (hk : l.length + 12 < k) : P.laws_markApplianceS.f k l 1 = some (1 + 5 * (l.length : Int), marked mkAp 5 1 l) := by
  have := mark_loop (F := fun k x m i => P.laws_markApplianceS.l0 k x m i) mkAp 5 12 (fun k A x l m hk h0 h1 h => ?_) (fun k A m => ?_) l [] 1 k (by simpa using hl) (by omega) (by omega) (by omega)
  · exact this
  · simp only [P.laws_markApplianceS.l0, markText_eq m h0 (by omega) k (by omega), Option.bind_some, Int.toNat_natCast, set_mid, rd_ap_mid]
    rw [if_pos (by simp; omega), if_pos (by omega), w64 (x := m + 1) (by omega) (by omega), w64 (x := m + 1 + 1) (by omega) (by omega), w64 (x := m + 1 + 1 + 1) (by omega) (by omega), w64 (x := m + 1 + 1 + 1 + 1) (by omega) (by omega), w64 (x := m + 1 + 1 + 1 + 1 + 1) (by omega) (by omega), w64_succ (by omega)]
    rw [show m + 1 + 1 + 1 + 1 + 1 = m + ((5 : Nat) : Int) by omega]
    rfl
  · simp only [P.laws_markApplianceS.l0]
    rw [if_neg (by omega)]
theorem heldApplianceS_eq (l : List Ap) (hl : l.length ≤ 1048576) (k : Nat) (hk : l.length + 12 < k) : P.laws_heldApplianceS.f k (marked mkAp 5 1 l) 1 = some (1 + 5 * (l.length : Int)) := by
  have := held_loop (F := fun k x m i => P.laws_heldApplianceS.l0 k x m i) mkAp 5 12 (fun k A x l m hk h0 h1 h => ?_) (fun k A m => ?_) l [] 1 k (by simpa using hl) (by omega) (by omega) (by omega)
  · exact this
  · simp only [P.laws_heldApplianceS.l0, markText_eq m h0 (by omega) k (by omega), Option.bind_some, rd_ap_mid]
    rw [if_pos (by simp; omega), if_pos (by omega), w64 (x := m + 1) (by omega) (by omega), w64 (x := m + 1 + 1) (by omega) (by omega), w64 (x := m + 1 + 1 + 1) (by omega) (by omega), w64 (x := m + 1 + 1 + 1 + 1) (by omega) (by omega), w64 (x := m + 1 + 1 + 1 + 1 + 1) (by omega) (by omega), w64_succ (by omega)]
    simp only [mkAp]
    rw [if_pos trivial, if_pos trivial, if_pos trivial, if_pos trivial, if_pos trivial]
    rw [show m + 1 + 1 + 1 + 1 + 1 = m + ((5 : Nat) : Int) by omega]
  · simp only [P.laws_heldApplianceS.l0]
    rw [if_neg (by omega)]
end Go.Proofs.Yteinfbfaijjknaa

/- ShareCrew: the plain law. Conditions: none. -/
namespace Go.Proofs.Yteinfbfaijjknaa
open Go.RowKit Go.Proofs.YteinfbfaijjknaaW.PrintWords
set_option linter.unusedSimpArgs false
set_option linter.unusedVariables false
theorem FnExactShareCrew.pure : FnExactShareCrew.Said := by
  intro l s t n ⟨hl, hw⟩ hs ht hn
  obtain ⟨r, hr, hz⟩ := szApplianceS_eq l hl hw
  obtain ⟨k, hk⟩ : ∃ k : Nat, l.length + 3200001 ≤ k := ⟨_, Nat.le_refl _⟩
  refine ⟨k + 3, ?_⟩
  simp only [P.laws_FnExactShareCrew.f]
  by_cases hb : (s.size : Int) > 1048576
  · rw [if_pos hb]
  · rw [if_neg hb]
    by_cases hb2 : (t.size : Int) > 1048576
    · rw [if_pos hb2]
    · rw [if_neg hb2]
      simp only [hz (k + 3) (by omega), Option.bind_some]
      by_cases h : 0 ≤ r
      · obtain ⟨h1, h2⟩ := hr h
        obtain ⟨v, hvl, hv⟩ := share_same _ h2 s t n
        have hv3 := hv (k + 3) (by omega)
        have hv1 := hv (k + 1) (by omega)
        rw [if_neg (by omega)]
        simp only [toApplianceS_eq l h1 (k + 3) (by omega), Option.bind_some, hv3.1, hv3.2, eqApplianceS_refl v.1 hvl (k + 3) (by omega), if_true, bne_self_eq_false]
        simp only [P.laws_FnExactShareCrew.j0, toApplianceS_eq l h1 (k + 2) (by omega), Option.bind_some, eqApplianceS_refl (l.map toAp) h2.1 (k + 2) (by simp; omega), if_true, Bool.false_eq_true, if_false, markApplianceS_eq (l.map toAp) h2.1 (k + 2) (by simp; omega), eqApplianceS_refl v.1 hvl (k + 2) (by omega), bne_self_eq_false]
        rw [if_neg (by omega)]
        simp only [P.laws_FnExactShareCrew.j1, markApplianceS_eq v.1 hvl (k + 1) (by omega), heldApplianceS_eq v.1 hvl (k + 1) (by omega), Option.bind_some, Bool.false_eq_true, if_false, if_true, toApplianceS_eq l h1 (k + 1) (by omega), hv1.2, eqApplianceS_refl v.1 hvl (k + 1) (by omega), bne_self_eq_false]
        rw [if_neg (by omega)]
        simp only [P.laws_FnExactShareCrew.j2, heldApplianceS_eq v.1 hvl k (by omega), Option.bind_some, Bool.false_eq_true, if_false, if_true]
        rw [if_neg (by omega)]
      · rw [if_pos (by omega)]
end Go.Proofs.Yteinfbfaijjknaa

namespace Go.Proofs.Yteinfbfaijjknaa.fnExactShareCrew
open Go.ChangeShapes Go.WideShapes Go.ChangeAt Go.RowKit Go.Proofs.Yteinfbfaijjknaa.Opens Go.Proofs.YteinfbfaijjknaaW.PrintWords
open Go.ChangeMaps (open_string shut_string)
set_option linter.unusedVariables false
theorem own : ownKnob Try.prog.godebug = none := by kernel_rfl
theorem laidOut : laidOutB Try.prog = true := by kernel_rfl
set_option maxRecDepth 100000 in
theorem lifted (os : Os) (started : os.Started) (H : Type) (enc : TypeId × Value → H) :
    ReturnsInHanded {} Try.checked os 11 .any (Rows.fnExactShareCrewSpec.pre6 enc Try.prog Try.f11 Rows.fnExactShareCrewRow.domain false) (Rows.fnExactShareCrewSpec.post enc Try.prog Try.f11 false true false false) := by
  refine returnsInHanded_of_change_sized (C := Try.checked) own started (by kernel_rfl) Try.func11
    (ChangeSpec.witness6 (enc := enc) (C := Try.checked) false ⟨#[], #[.slice none 0 0, .string ByteArray.empty, .string ByteArray.empty, .int .i64 0], []⟩ 8 (by kernel_rfl) (by kernel_rfl) (by kernel_rfl) (by kernel_rfl)) ?_
  intro W base args ds gs before hval0 hW hcnd hsz0 _
  have hval : ∀ (j : Nat) t v, Try.f11.params[j]? = some t → args[j]? = some v → Value.okWide Try.prog W .any base t v := hval0
  have hW' := hW
  obtain ⟨p, q, hA0, hV, rfl, hfz, hnd⟩ := hW
  have hA : DataW.TrodAll enc Try.prog W 0 (fun _ => true) true Try.f11.params.toList args.toList ds p := hA0
  rw [Try.params11] at hA hval
  obtain ⟨v0, vs0, d0, ds0, p0, q0, hargs, rfl, rfl, h0, r0⟩ := trodAll_cons hA
  obtain ⟨v1, vs1, d1, ds1, p1, q1, rfl, rfl, rfl, h1, r1⟩ := trodAll_cons r0
  obtain ⟨v2, vs2, d2, ds2, p2, q2, rfl, rfl, rfl, h2, r2⟩ := trodAll_cons r1
  obtain ⟨v3, vs3, d3, ds3, p3, q3, rfl, rfl, rfl, h3, r3⟩ := trodAll_cons r2
  obtain ⟨rfl, rfl, rfl⟩ := trodAll_nil r3
  obtain rfl : args = #[v0, v1, v2, v3] := by cases args; simp_all
  obtain ⟨rfl, rfl⟩ := trodVars_none hV
  have lt0 : ∀ x ∈ p0, x.block < W.heap.size := by obtain ⟨m, hm⟩ := h0; exact DataW.trod_lt m _ _ _ hm
  have k0 := h0
  obtain ⟨a0, len0, cap0, rfl⟩ := okWide_slice Try.underlying33 (hval 0 33 v0 rfl rfl)
  obtain ⟨l0, rfl, hc0, hr0, y0⟩ := opn_slice_val (opn_slice 23 Try.underlying33 (by kernel_rfl) opn23) h0
  have lt1 : ∀ x ∈ p1, x.block < W.heap.size := by obtain ⟨m, hm⟩ := h1; exact DataW.trod_lt m _ _ _ hm
  have k1 := h1
  obtain ⟨a1, rfl, _, _, y1⟩ := open_string Try.underlying9 (hval 1 9 v1 rfl rfl) h1
  have lt2 : ∀ x ∈ p2, x.block < W.heap.size := by obtain ⟨m, hm⟩ := h2; exact DataW.trod_lt m _ _ _ hm
  have k2 := h2
  obtain ⟨a2, rfl, _, _, y2⟩ := open_string Try.underlying9 (hval 2 9 v2 rfl rfl) h2
  have lt3 : ∀ x ∈ p3, x.block < W.heap.size := by obtain ⟨m, hm⟩ := h3; exact DataW.trod_lt m _ _ _ hm
  have k3 := h3
  obtain ⟨a3, rfl, _, _, y3⟩ := open_int Try.underlying3 (hval 3 3 v3 rfl rfl) h3
  obtain ⟨k, hp⟩ := FnExactShareCrew.pure l0 a1 a2 a3 y0 y1 y2 y3
  clear hA0 hval0 hsz0
  refine (P.laws_FnExactShareCrew.calls k a0 cap0 l0 a1 a2 a3 true W hr0 hc0 hp).mono fun e W' ⟨he, bel0⟩ => ?_
  have bel : Below W.heap.size W W' := bel0
  subst he
  exact ⟨_, rfl, _, _, _, [], _, [], hW', trodAll_mk1 (shut_bool Try.underlying4 _), (trodAll_cons_mk (Below.trod laidOut (by kernel_rfl) (of_decide_eq_true (by kernel_rfl)) k0 bel lt0) (trodAll_cons_mk (Below.trod laidOut (by kernel_rfl) (of_decide_eq_true (by kernel_rfl)) k1 bel lt1) (trodAll_cons_mk (Below.trod laidOut (by kernel_rfl) (of_decide_eq_true (by kernel_rfl)) k2 bel lt2) (trodAll_cons_mk (Below.trod laidOut (by kernel_rfl) (of_decide_eq_true (by kernel_rfl)) k3 bel lt3) trodAll_mk0)))), rfl, bel.frame _, fun h => by cases h⟩
theorem over : Rows.fnExactShareCrewRow.holds Try.pinned (OpenSpec.ofChange Rows.fnExactShareCrewSpec) :=
  OpenClaim.holds_of_wide 11 Try.f11 rfl rfl rfl rfl rfl rfl rfl ⟨rfl, rfl, rfl, rfl, rfl⟩ rfl rfl rfl rfl rfl (by kernel_rfl) Try.func11 (by kernel_rfl)
    (of_decide_eq_true (by kernel_rfl)) (by unfold Func.isWrapper; first | (rw [if_pos (by decide +kernel)]; kernel_rfl) | (rw [if_neg (by decide +kernel)]; exact ⟨rfl, rfl⟩))
    (fun os started H enc _ => lifted os started H enc)
end Go.Proofs.Yteinfbfaijjknaa.fnExactShareCrew
namespace Go.Proofs.Yteinfbfaijjknaa
/-- The statement. -/
theorem fnExactShareCrew_holds : Rows.FnExactShareCrewSaid := fnExactShareCrew.over
#print axioms fnExactShareCrew_holds
end Go.Proofs.Yteinfbfaijjknaa
