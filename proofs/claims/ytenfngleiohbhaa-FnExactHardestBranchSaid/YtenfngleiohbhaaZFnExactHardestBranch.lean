/- For every input the call of FnExactHardestBranch returns true, and its arguments read afterwards as before. Conditions: none. -/
import Derived.Test.YtenfngleiohbhaaQFnExactHardestBranch8
import Derived.Test.YtenfngleiohbhaaWWords
import Derived.Test.YtenfngleiohbhaaWNEv
import Derived.Test.YtenfngleiohbhaaWMore
import Derived.Test.YtenfngleiohbhaaRows
import Derived.Deep.Slices
import Derived.WideShapes
import Derived.ChangeSame
import Derived.DataReads
import Derived.KernelRfl
import Derived.WalkKit
import Derived.ProofKit
import Derived.OpenShut
import Derived.ShutString
import Derived.ChangeOld
import Derived.Below
import Derived.SizedLaws
/- What an argument that reads as data is, as the printed texts' kinds say it: generic over the type. Conditions: none of our own. -/
namespace Go.Proofs.Ytenfngleiohbhaa.Opens
open Go.RowKit Go.Proofs.YtenfngleiohbhaaW.PrintWords
open Go.WideShapes

/-- Data of type T is of kind d, and Q holds of it. -/
def Opn {α : Type} (P : Program) (T : TypeId) (d : Kd α) (Q : α → Prop) : Prop :=
  ∀ (H : Type) (enc : TypeId × Value → H) (W : World) (fuel : Nat) (cs : List Value) (x : DataW H × List MemPlace), DataW.trod enc P W 0 (fun _ => true) true fuel T cs = some x → ∃ a, d.K W a cs ∧ Q a

theorem opn_int {P : Program} {T : TypeId} {k : IntKind} (hu : P.underlying T = some (.int k)) : Opn P T (Kd.int k) (fun a => (Lit.int k a).wf = true) := by
  intro H enc W fuel cs x h
  cases fuel with
  | zero => simp [DataW.trod] at h
  | succ n =>
    simp only [DataW.trod, hu] at h
    split at h
    all_goals first | (cases h; done) | skip
    all_goals simp_all [Kd.int, Kd.scalar]

theorem opn_bool {P : Program} {T : TypeId} (hu : P.underlying T = some .bool) : Opn P T Kd.bool (fun _ => True) := by
  intro H enc W fuel cs x h
  cases fuel with
  | zero => simp [DataW.trod] at h
  | succ n =>
    simp only [DataW.trod, hu] at h
    split at h
    all_goals first | (cases h; done) | skip
    all_goals simp_all [Kd.bool, Kd.scalar]

theorem opn_string {P : Program} {T : TypeId} (hu : P.underlying T = some .string) : Opn P T Kd.string (fun s => s.size ≤ maxLen) := by
  intro H enc W fuel cs x h
  cases fuel with
  | zero => simp [DataW.trod] at h
  | succ n =>
    simp only [DataW.trod, hu] at h
    split at h
    all_goals first | (cases h; done) | skip
    all_goals simp_all [Kd.string, Kd.scalar]


/-- Some fields of a struct, from number i and cell off on. -/
def OpnFs {α : Type} (P : Program) (fs : Array Field) (i off : Nat) (d : Kd α) (Q : α → Prop) : Prop :=
  ∀ (H : Type) (enc : TypeId × Value → H) (W : World) (n : Nat) (cs : List Value), (∀ j f, i ≤ j → fs[j]? = some f → ∃ y, DataW.trod enc P W 0 (fun _ => true) true n f.type ((cs.drop f.offset).take (P.cellsOf f.type)) = some y) →
    cs.length = off + d.sz → ∃ a, d.K W a (cs.drop off) ∧ Q a

theorem opnFs_last {α : Type} {P : Program} {fs : Array Field} {i off : Nat} {d : Kd α} {Q : α → Prop} (f : Field) (hf : fs[i]? = some f) (ho : f.offset = off) (hs : P.cellsOf f.type = d.sz) (h : Opn P f.type d Q) : OpnFs P fs i off d Q := by
  intro H enc W n cs g hl
  obtain ⟨y, hy⟩ := g i f (Nat.le_refl _) hf
  rw [ho, hs, List.take_of_length_le (by rw [List.length_drop]; omega)] at hy
  exact h H enc W n _ y hy

theorem opnFs_cons {α β : Type} {P : Program} {fs : Array Field} {i off : Nat} {d : Kd α} {d2 : Kd β} {Q : α → Prop} {Q2 : β → Prop} (f : Field) (hf : fs[i]? = some f) (ho : f.offset = off) (hs : P.cellsOf f.type = d.sz) (h : Opn P f.type d Q)
    (h2 : OpnFs P fs (i + 1) (off + d.sz) d2 Q2) : OpnFs P fs i off (Kd.pair d d2) (fun p => Q p.1 ∧ Q2 p.2) := by
  intro H enc W n cs g hl
  obtain ⟨y, hy⟩ := g i f (Nat.le_refl _) hf
  rw [ho, hs] at hy
  have hl' : cs.length = off + (d.sz + d2.sz) := hl
  obtain ⟨a, ha, qa⟩ := h H enc W n _ y hy
  obtain ⟨b, hb, qb⟩ := h2 H enc W n cs (fun j f hj => g j f (by omega)) (by omega)
  refine ⟨(a, b), ⟨(cs.drop off).take d.sz, cs.drop (off + d.sz), ?_, ha, hb⟩, qa, qb⟩
  rw [← List.drop_drop, List.take_append_drop]

theorem opn_struct {α β : Type} {P : Program} {T : TypeId} {fs : Array Field} {d : Kd α} {Q : α → Prop} {f : β → α} (g : α → β) (hg : ∀ a, f (g a) = a) (hu : P.underlying T = some (.struct fs)) (hc : P.cellsOf T = d.sz) (h : OpnFs P fs 0 0 d Q) :
    Opn P T (Kd.iso d f) (fun b => Q (f b)) := by
  intro H enc W fuel cs x hx
  obtain ⟨xs, n, _, _, hl, hlen, hf⟩ := DataW.trod_struct hu hx
  obtain ⟨a, ha, qa⟩ := h H enc W n cs (fun j f _ hj => by
    have := hf j f hj
    have hj2 : j < xs.length := by
      have := (Array.getElem?_eq_some_iff.1 hj).1
      omega
    rw [List.getElem?_eq_getElem hj2] at this
    exact ⟨_, this⟩) (by rw [hl, hc]; omega)
  refine ⟨g a, ?_, ?_⟩
  · show d.K W (f (g a)) cs
    rw [hg]
    simpa using ha
  · show Q (f (g a))
    rw [hg]
    exact qa

theorem cells_each {w : World} {a : Addr} {n : Nat} {cs : List Value} (h : w.cells? 0 a n = some cs) : cs.length = n ∧ ∀ i u, cs[i]? = some u → w.cell? (a.add i) = some u := by
  simp only [World.cells?, Nat.zero_le, if_true] at h
  have hl : cs.length = n := by have := mapM_some_length h; simpa using this
  refine ⟨hl, fun i u hu => ?_⟩
  have hi : i < n := by
    have := (List.getElem?_eq_some_iff.1 hu).1
    omega
  rw [← hu]
  exact mapM_some_get h i i (by rw [List.getElem?_range hi])

theorem opn_slice {α : Type} {P : Program} {T e : TypeId} {d : Kd α} {Q : α → Prop} (E : Nat) (hu : P.underlying T = some (.slice e)) (hc : P.cellsOf e = d.sz) (he : Opn P e d Q) :
    Opn P T (Kd.slice E d) (fun l => l.length ≤ maxLen ∧ ∀ x ∈ l, Q x) := by
  intro H enc W fuel cs x hx
  rcases Go.Deep.open_slice hu hx with ⟨rfl, _⟩ | ⟨a, len, cap, m, n, D, Pl, rfl, _, hlc, hcm, hm, _, hel⟩
  · exact ⟨[], ⟨none, 0, rfl, Nat.le_refl _, rfl, by simp, fun h => absurd h (by simp)⟩, by simp, by simp⟩
  have hel' : ∀ i, i < len → ∃ y, (∃ c, W.cells? 0 (a.add (i * P.cellsOf e)) (P.cellsOf e) = some c ∧ d.K W y c) ∧ Q y := by
    intro i hi
    obtain ⟨c, h1, h2⟩ := hel i (by rw [hm]; simp; omega)
    obtain ⟨y, hy, hq⟩ := he H enc W n c _ h2
    exact ⟨y, ⟨c, h1, hy⟩, hq⟩
  have hex : ∃ l : List α, l.length = len ∧ ∀ i y, l[i]? = some y → (∃ c, W.cells? 0 (a.add (i * P.cellsOf e)) (P.cellsOf e) = some c ∧ d.K W y c) ∧ Q y := by
    revert hel'
    generalize len = q
    intro hel'
    clear hx hel
    induction q with
    | zero => exact ⟨[], rfl, by simp⟩
    | succ k ih =>
      obtain ⟨l, hl, hp⟩ := ih (fun i hi => hel' i (by omega))
      obtain ⟨y, hy⟩ := hel' k (by omega)
      refine ⟨l ++ [y], by simp [hl], fun i z hz => ?_⟩
      by_cases hi : i < l.length
      · rw [List.getElem?_append_left hi] at hz
        exact hp i z hz
      · have : i = k := by
          have := (List.getElem?_eq_some_iff.1 hz).1
          simp at this
          omega
        subst this
        rw [List.getElem?_append_right (by omega), hl] at hz
        simp at hz
        subst hz
        exact hy
  obtain ⟨l, hl, hp⟩ := hex
  refine ⟨l, ⟨some a, cap, by rw [hl], by omega, rfl, ?_, fun _ => ⟨a, rfl, ?_⟩⟩, by rw [hl]; omega, ?_⟩
  · rw [hl]
    simp only [maxLen] at hcm
    omega
  · intro j y hj
    obtain ⟨⟨c, h1, h2⟩, _⟩ := hp j y hj
    obtain ⟨h3, h4⟩ := cells_each h1
    refine ⟨c, by rw [h3, hc], h2, fun i u hi => ?_⟩
    rw [← hc, ← Go.Deep.add_add]
    exact h4 i u hi
  · intro y hy
    obtain ⟨i, hi, rfl⟩ := List.getElem_of_mem hy
    exact (hp i _ (List.getElem?_eq_getElem hi)).2

/-- A slice that is an argument. -/
theorem opn_slice_val {α : Type} {H : Type} {enc : TypeId × Value → H} {P : Program} {W : World} {T : TypeId} {E : Nat} {d : Kd α} {Q : List α → Prop} (h : Opn P T (Kd.slice E d) Q) {a : Option Addr} {len cap : Nat} {x : DataW H} {ps : List MemPlace}
    (ht : DataW.Trod enc P W 0 (fun _ => true) true T (.slice a len cap) x ps) : ∃ l : List α, len = l.length ∧ l.length ≤ cap ∧ d.C W a l.length l ∧ Q l := by
  obtain ⟨fuel, hf⟩ := ht
  obtain ⟨l, ⟨A, c, hcs, hl, hr⟩, hq⟩ := h H enc W fuel _ _ hf
  simp [Value.cells] at hcs
  obtain ⟨rfl, rfl, rfl⟩ := hcs
  exact ⟨l, rfl, hl, hr, hq⟩

end Go.Proofs.Ytenfngleiohbhaa.Opens

/- What each argument type of these statements reads as. Conditions: none of our own. -/
namespace Go.Proofs.Ytenfngleiohbhaa
open Go.RowKit Go.Proofs.YtenfngleiohbhaaW.PrintWords Go.Proofs.Ytenfngleiohbhaa.Opens

/-- loop.example/g01020/laws.Hose: what holds of its fields. -/
def Wf38 (x : P.S38) : Prop := ((Lit.int .i64 x.f0).wf = true) ∧ ((Lit.int .i64 x.f1).wf = true)
theorem opn38 : Opn Try.prog 38 P.k38 Wf38 := opn_struct (f := (fun x : P.S38 => (x.f0, x.f1))) (fun a => (⟨a.1, a.2⟩ : P.S38)) (fun _ => rfl) Try.underlying38 (by kernel_rfl) (opnFs_cons _ rfl rfl (by kernel_rfl) (opn_int Try.underlying3) (opnFs_last _ rfl rfl (by kernel_rfl) (opn_int Try.underlying3)))
/-- loop.example/g01020/laws.LinePart: what holds of its fields. -/
def Wf40 (x : P.S40) : Prop := ((Lit.int .i64 x.f0).wf = true) ∧ (Wf38 x.f1) ∧ ((Lit.int .i64 x.f2).wf = true) ∧ ((Lit.int .i64 x.f3).wf = true) ∧ ((Lit.int .i64 x.f4).wf = true)
theorem opn40 : Opn Try.prog 40 P.k40 Wf40 := opn_struct (f := (fun x : P.S40 => (x.f0, x.f1, x.f2, x.f3, x.f4))) (fun a => (⟨a.1, a.2.1, a.2.2.1, a.2.2.2.1, a.2.2.2.2⟩ : P.S40)) (fun _ => rfl) Try.underlying40 (by kernel_rfl) (opnFs_cons _ rfl rfl (by kernel_rfl) (opn_int Try.underlying3) (opnFs_cons _ rfl rfl (by kernel_rfl) opn38 (opnFs_cons _ rfl rfl (by kernel_rfl) (opn_int Try.underlying3) (opnFs_cons _ rfl rfl (by kernel_rfl) (opn_int Try.underlying3) (opnFs_last _ rfl rfl (by kernel_rfl) (opn_int Try.underlying3))))))
end Go.Proofs.Ytenfngleiohbhaa

/- The pure statement of FnExactHardestBranch. -/
namespace Go.Proofs.Ytenfngleiohbhaa
open Go.RowKit Go.Proofs.YtenfngleiohbhaaW.PrintWords
/-- What is left of the statement: numbers and lists alone. -/
def FnExactHardestBranch.Said : Prop := ∀ (l0 : List P.S40), (l0.length ≤ maxLen ∧ ∀ y ∈ l0, Wf40 y) → ∃ k, P.laws_FnExactHardestBranch.f k l0 = some true
end Go.Proofs.Ytenfngleiohbhaa

/- Plain lemmas on rounds, wraps, loops and lists, with no program in sight. -/
namespace Go.Proofs.Ytenfngleiohbhaa
open Go.RowKit Go.Proofs.YtenfngleiohbhaaW.PrintWords
set_option linter.unusedSimpArgs false
set_option linter.unusedVariables false

theorem bound_i64 {a : Int} (h : (Lit.int .i64 a).wf = true) : -9223372036854775808 ≤ a ∧ a ≤ 9223372036854775807 := by
  simp only [Lit.wf, IntKind.min, IntKind.max, IntKind.signed, IntKind.bits, Bool.and_eq_true, decide_eq_true_eq, if_true] at h
  omega
theorem w64 {x : Int} (h0 : -9223372036854775808 ≤ x) (h1 : x ≤ 9223372036854775807) : wrap64 x = x := by
  unfold wrap64
  omega
theorem w64_succ {i : Nat} (h : i < 4611686018427387904) : wrap64 ((i : Int) + 1) = ((i + 1 : Nat) : Int) := by
  unfold wrap64
  omega
theorem some_dec {p q : Prop} [Decidable p] [Decidable q] (h : p ↔ q) : some (decide p) = some (decide q) := by simp [h]
theorem some_t {q : Prop} [Decidable q] (h : q) : some true = some (decide q) := by simp [h]
theorem some_f {q : Prop} [Decidable q] (h : ¬ q) : some false = some (decide q) := by simp [h]
theorem bind_if {α : Type} {c : Prop} [Decidable c] (f : Bool → Option α) : (some (decide c)).bind f = if c then f true else f false := by
  by_cases h : c <;> simp [h]
theorem bind_ifb {α : Type} (c : Bool) (f : Bool → Option α) : (some c).bind f = if c = true then f true else f false := by
  cases c <;> simp

/-! ### A loop with rounds: what it comes to -/
section
variable {σ ρ : Type}
def runFrom (step : Nat → σ → σ ⊕ ρ) (fin : σ → ρ) : Nat → Nat → σ → ρ
  | 0, _, s => fin s
  | d + 1, i, s => match step i s with
    | .inl s' => runFrom step fin d (i + 1) s'
    | .inr r => r
theorem run_loop {F : Nat → σ → Int → Option ρ} {n : Nat} (step : Nat → σ → σ ⊕ ρ) (fin : σ → ρ) (Inv : Nat → σ → Prop)
    (hs : ∀ k i s, i < n → Inv i s → F (k + 1) s (i : Int) = match step i s with | .inl s' => F k s' ((i + 1 : Nat) : Int) | .inr r => some r)
    (hi : ∀ i s s', i < n → Inv i s → step i s = .inl s' → Inv (i + 1) s')
    (he : ∀ k s, Inv n s → F (k + 1) s (n : Int) = some (fin s)) :
    ∀ (d i : Nat) (s : σ) (k : Nat), i + d = n → d < k → Inv i s → F k s (i : Int) = some (runFrom step fin d i s) := by
  intro d
  induction d with
  | zero =>
    intro i s k h hk hI
    obtain ⟨k, rfl⟩ : ∃ m, k = m + 1 := ⟨k - 1, by omega⟩
    obtain rfl : i = n := by omega
    exact he k s hI
  | succ d ih =>
    intro i s k h hk hI
    obtain ⟨k, rfl⟩ : ∃ m, k = m + 1 := ⟨k - 1, by omega⟩
    rw [hs k i s (by omega) hI]
    simp only [runFrom]
    cases hst : step i s with
    | inl s' => exact ih (i + 1) s' k (by omega) (by omega) (hi i s s' (by omega) hI hst)
    | inr r => rfl
end
/-- All from i on, d of them. -/
def allFrom (p : Nat → Bool) : Nat → Nat → Bool
  | 0, _ => true
  | d + 1, i => p i && allFrom p d (i + 1)
theorem allFrom_iff (p : Nat → Bool) : ∀ (d i : Nat), allFrom p d i = true ↔ ∀ j, i ≤ j → j < i + d → p j = true
  | 0, i => by simp [allFrom]; intro j h1 h2; omega
  | d + 1, i => by
    simp only [allFrom, Bool.and_eq_true, allFrom_iff p d (i + 1)]
    constructor
    · intro ⟨h, hh⟩ j h1 h2
      by_cases e : j = i
      · rw [e]; exact h
      · exact hh j (by omega) (by omega)
    · intro h
      exact ⟨h i (Nat.le_refl _) (by omega), fun j h1 h2 => h j (by omega) (by omega)⟩
theorem allFrom_congr {p q : Nat → Bool} : ∀ (d i : Nat), (∀ j, i ≤ j → j < i + d → p j = q j) → allFrom p d i = allFrom q d i
  | 0, _, _ => rfl
  | d + 1, i, h => by simp only [allFrom]; rw [h i (Nat.le_refl _) (by omega), allFrom_congr d (i + 1) (fun j h1 h2 => h j (by omega) (by omega))]
/-- A loop that goes on while p holds, else says false. -/
theorem all_loop {F : Nat → Int → Option Bool} {n : Nat} (p : Nat → Bool)
    (hs : ∀ k i, i < n → (∀ j, j < i → p j = true) → F (k + 1) (i : Int) = if p i = true then F k ((i + 1 : Nat) : Int) else some false)
    (he : ∀ k, F (k + 1) (n : Int) = some true) :
    ∀ (d i : Nat) (k : Nat), i + d = n → d < k → (∀ j, j < i → p j = true) → F k (i : Int) = some (allFrom p d i) := by
  intro d
  induction d with
  | zero =>
    intro i k h hk hI
    obtain ⟨k, rfl⟩ : ∃ m, k = m + 1 := ⟨k - 1, by omega⟩
    obtain rfl : i = n := by omega
    exact he k
  | succ d ih =>
    intro i k h hk hI
    obtain ⟨k, rfl⟩ : ∃ m, k = m + 1 := ⟨k - 1, by omega⟩
    rw [hs k i (by omega) hI]
    simp only [allFrom]
    by_cases hp : p i = true
    · rw [if_pos hp, hp, Bool.true_and]
      refine ih (i + 1) k (by omega) (by omega) (fun j hj => ?_)
      by_cases e : j = i
      · rw [e]; exact hp
      · exact hI j (by omega)
    · rw [if_neg hp]
      simp [Bool.eq_false_iff.2 hp]

/-! ### Lists -/
theorem fill_set {α : Type} (A : List α) (d : Nat) (z v : α) : (A ++ List.replicate (d + 1) z).set A.length v = (A ++ [v]) ++ List.replicate d z := by
  rw [List.set_append_right _ _ (by omega), Nat.sub_self, List.replicate_succ, List.set_cons_zero, List.append_assoc]
  rfl
theorem take_map_succ {α β : Type} (f : α → β) (l : List α) (z : α) (i : Nat) (h : i < l.length) : (l.take (i + 1)).map f = (l.take i).map f ++ [f (l.getD i z)] := by
  rw [List.take_succ_eq_append_getElem h, List.map_append]
  simp [List.getD_eq_getElem?_getD, List.getElem?_eq_getElem h]
theorem set_split {α : Type} (l : List α) (i : Nat) (h : i < l.length) (v : α) : l.set i v = l.take i ++ v :: l.drop (i + 1) := List.set_eq_take_append_cons_drop .. |>.trans (by rw [if_pos h])

/-- A loop that goes on while p holds, else says false; behind the last one it says b. -/
theorem all_loop_end {F : Nat → Int → Option Bool} {n : Nat} (p : Nat → Bool) (b : Bool) (K : Nat)
    (hs : ∀ k i, K ≤ k → i < n → (∀ j, j < i → p j = true) → F (k + 1) (i : Int) = if p i = true then F k ((i + 1 : Nat) : Int) else some false)
    (he : ∀ k, K ≤ k → (∀ j, j < n → p j = true) → F (k + 1) (n : Int) = some b) :
    ∀ (d i : Nat) (k : Nat), i + d = n → K + d < k → (∀ j, j < i → p j = true) → F k (i : Int) = some (allFrom p d i && b) := by
  intro d
  induction d with
  | zero =>
    intro i k h hk hI
    obtain ⟨k, rfl⟩ : ∃ m, k = m + 1 := ⟨k - 1, by omega⟩
    obtain rfl : i = n := by omega
    rw [he k (by omega) hI]
    simp [allFrom]
  | succ d ih =>
    intro i k h hk hI
    obtain ⟨k, rfl⟩ : ∃ m, k = m + 1 := ⟨k - 1, by omega⟩
    rw [hs k i (by omega) (by omega) hI]
    simp only [allFrom]
    by_cases hp : p i = true
    · rw [if_pos hp, hp, Bool.true_and]
      refine ih (i + 1) k (by omega) (by omega) (fun j hj => ?_)
      by_cases e : j = i
      · rw [e]; exact hp
      · exact hI j (by omega)
    · rw [if_neg hp]
      simp [Bool.eq_false_iff.2 hp]
theorem allFrom_true : ∀ d i, allFrom (fun _ => true) d i = true
  | 0, _ => rfl
  | d + 1, i => by simp [allFrom, allFrom_true d]

/-! ### A copy, element by element; marks, and their test -/
theorem copy_loop {α β : Type} (F : Nat → List β → Int → Option (List β)) (l : List α) (za : α) (conv : α → β) (z : β) (K : Nat)
    (hs : ∀ k i d (B : List β), K ≤ k → i + d + 1 = l.length → B.length = i → F (k + 1) (B ++ List.replicate (d + 1) z) (i : Int) = F k ((B ++ [conv (l.getD i za)]) ++ List.replicate d z) ((i + 1 : Nat) : Int))
    (he : ∀ k (B : List β), K ≤ k → B.length = l.length → F (k + 1) B (l.length : Int) = some B) :
    ∀ (d i k : Nat), i + d = l.length → K + d < k → F k ((l.take i).map conv ++ List.replicate d z) (i : Int) = some (l.map conv) := by
  intro d
  induction d with
  | zero =>
    intro i k h hk
    obtain ⟨k, rfl⟩ : ∃ m, k = m + 1 := ⟨k - 1, by omega⟩
    obtain rfl : i = l.length := by omega
    rw [List.take_length, List.replicate_zero, List.append_nil]
    exact he k _ (by omega) (by simp)
  | succ d ih =>
    intro i k h hk
    obtain ⟨k, rfl⟩ : ∃ m, k = m + 1 := ⟨k - 1, by omega⟩
    rw [hs k i d _ (by omega) (by omega) (by simp; omega), ← take_map_succ conv l za i (by omega)]
    exact ih (i + 1) k (by omega) (by omega)
section
variable {α : Type}
def marked (mk : Int → α → α) (w : Int) : Int → List α → List α
  | _, [] => []
  | m, x :: l => mk m x :: marked mk w (m + w) l
theorem marked_length (mk : Int → α → α) (w : Int) : ∀ (l : List α) (m : Int), (marked mk w m l).length = l.length
  | [], _ => rfl
  | x :: l, m => by show (marked mk w (m + w) l).length + 1 = l.length + 1; rw [marked_length mk w l]
theorem mark_loop (F : Nat → List α → Int → Int → Option (Int × List α)) (mk : Int → α → α) (w : Nat) (K : Nat)
    (hs : ∀ k (A : List α) (x : α) (l : List α) (m : Int), K ≤ k → 0 ≤ m → m + w ≤ 1000000000 → A.length + l.length < 1048577 → F (k + 1) (A ++ x :: l) m (A.length : Int) = F k (A ++ mk m x :: l) (m + w) ((A.length + 1 : Nat) : Int))
    (he : ∀ k (A : List α) (m : Int), F (k + 1) A m (A.length : Int) = some (m, A)) :
    ∀ (l A : List α) (m : Int) (k : Nat), A.length + l.length ≤ 1048576 → 0 ≤ m → m + w * l.length ≤ 1000000000 → K + l.length < k → F k (A ++ l) m (A.length : Int) = some (m + w * l.length, A ++ marked mk w m l) := by
  intro l
  induction l with
  | nil =>
    intro A m k h h0 h1 hk
    obtain ⟨k, rfl⟩ : ∃ m, k = m + 1 := ⟨k - 1, by omega⟩
    rw [List.append_nil, he]
    simp [marked]
  | cons x l ih =>
    intro A m k h h0 h1 hk
    simp only [List.length_cons] at h h1 hk
    have hw : (w : Int) * ((l.length + 1 : Nat) : Int) = w * (l.length : Int) + w := by rw [Int.natCast_add, Int.mul_add]; simp
    have hn : 0 ≤ (w : Int) * (l.length : Int) := Int.mul_nonneg (by omega) (by omega)
    obtain ⟨k, rfl⟩ : ∃ m, k = m + 1 := ⟨k - 1, by omega⟩
    rw [hs k A x l m (by omega) h0 (by omega) (by omega)]
    have := ih (A ++ [mk m x]) (m + w) k (by simp; omega) (by omega) (by omega) (by omega)
    rw [List.length_append, List.length_singleton, List.append_assoc, List.singleton_append] at this
    rw [this, List.append_assoc, List.singleton_append, List.length_cons, hw, Int.add_assoc, Int.add_comm (w : Int)]
    rfl
theorem held_loop (F : Nat → List α → Int → Int → Option Int) (mk : Int → α → α) (w : Nat) (K : Nat)
    (hs : ∀ k (A : List α) (x : α) (l : List α) (m : Int), K ≤ k → 0 ≤ m → m + w ≤ 1000000000 → A.length + l.length < 1048577 → F (k + 1) (A ++ mk m x :: l) m (A.length : Int) = F k (A ++ mk m x :: l) (m + w) ((A.length + 1 : Nat) : Int))
    (he : ∀ k (A : List α) (m : Int), F (k + 1) A m (A.length : Int) = some m) :
    ∀ (l A : List α) (m : Int) (k : Nat), A.length + l.length ≤ 1048576 → 0 ≤ m → m + w * l.length ≤ 1000000000 → K + l.length < k → F k (A ++ marked mk w m l) m (A.length : Int) = some (m + w * l.length) := by
  intro l
  induction l with
  | nil =>
    intro A m k h h0 h1 hk
    obtain ⟨k, rfl⟩ : ∃ m, k = m + 1 := ⟨k - 1, by omega⟩
    have hm : marked mk w m [] = [] := rfl
    rw [hm, List.append_nil, he]
    simp
  | cons x l ih =>
    intro A m k h h0 h1 hk
    simp only [List.length_cons] at h h1 hk
    have hw : (w : Int) * ((l.length + 1 : Nat) : Int) = w * (l.length : Int) + w := by rw [Int.natCast_add, Int.mul_add]; simp
    have hn : 0 ≤ (w : Int) * (l.length : Int) := Int.mul_nonneg (by omega) (by omega)
    obtain ⟨k, rfl⟩ : ∃ m, k = m + 1 := ⟨k - 1, by omega⟩
    have hm : marked mk w m (x :: l) = mk m x :: marked mk w (m + w) l := rfl
    rw [hm, hs k A x _ m (by omega) h0 (by omega) (by rw [marked_length]; omega)]
    have := ih (A ++ [mk m x]) (m + w) k (by simp; omega) (by omega) (by omega) (by omega)
    rw [List.length_append, List.length_singleton, List.append_assoc, List.singleton_append] at this
    rw [this, List.length_cons, hw, Int.add_assoc, Int.add_comm (w : Int)]
end
theorem set_mid {α : Type} (A : List α) (v u : α) (l : List α) : (A ++ v :: l).set A.length u = A ++ u :: l := by
  rw [List.set_append_right _ _ (by omega), Nat.sub_self, List.set_cons_zero]
theorem getD_mid {α : Type} (A : List α) (v : α) (l : List α) (z : α) : (A ++ v :: l).getD A.length z = v := by
  simp [List.getD_eq_getElem?_getD]
end Go.Proofs.Ytenfngleiohbhaa

/- 'inside' on both sides. Conditions: none. -/
namespace Go.Proofs.Ytenfngleiohbhaa
open Go.RowKit Go.Proofs.YtenfngleiohbhaaW.PrintWords
theorem inside_eq (a b c : Int) : P.impl_inside.f a b c = some (decide (b ≤ a ∧ a ≤ c)) := by
  unfold P.impl_inside.f
  split
  · exact some_dec (by omega)
  · exact some_f (by omega)
theorem l1In_eq (a b c : Int) : P.spec_l1In.f a b c = some (decide (b ≤ a ∧ a ≤ c)) := by
  unfold P.spec_l1In.f
  split
  · exact some_dec (by omega)
  · exact some_f (by omega)
theorem inside_l1In (a b c : Int) : P.impl_inside.f a b c = P.spec_l1In.f a b c := by rw [inside_eq, l1In_eq]
theorem w64_pred {i : Nat} (h : 0 < i) (hh : i < 4611686018427387904) : wrap64 ((i : Int) - 1) = ((i - 1 : Nat) : Int) := by
  unfold wrap64
  omega
end Go.Proofs.Ytenfngleiohbhaa

/- Slices of parts of a hose line: the copy of an argument, equality, marks. Conditions: none. -/
namespace Go.Proofs.Ytenfngleiohbhaa
open Go.RowKit Go.Proofs.YtenfngleiohbhaaW.PrintWords
set_option linter.unusedSimpArgs false
set_option linter.unusedVariables false
abbrev Lp := P.S45
abbrev LLp := P.S40
def toLp (x : LLp) : Lp := ⟨x.f0, ⟨x.f1.f0, x.f1.f1⟩, x.f2, x.f3, x.f4⟩
def pp (l : List Lp) (j : Nat) : Lp := l.getD j P.z45
theorem rd_pp (l : List Lp) (j : Nat) : P.rd_T45 l (j : Int) = pp l j := by simp [P.rd_T45, pp]
theorem toLinePart_eq (a b c d e f : Int) : P.laws_toLinePart.f a b c d e f = some (a, b, c, d, e, f) := rfl
theorem toLinePartS_eq (l : List LLp) (hl : l.length ≤ 1048576) (k : Nat) (hk : l.length < k) : P.laws_toLinePartS.f k l = some (l.map toLp) := by
  simp only [P.laws_toLinePartS.f]
  rw [if_pos (by omega), if_pos (by omega)]
  refine copy_loop (F := fun k B i => P.laws_toLinePartS.l0 k l B i) l P.z40 toLp P.z45 0 (fun k i d B _ h hB => ?_) (fun k B _ hB => ?_) l.length 0 k (by omega) (by omega)
  · simp only [P.laws_toLinePartS.l0]
    have hf := fill_set B d P.z45 (toLp (l.getD i P.z40))
    rw [hB] at hf
    rw [if_pos (by omega), if_pos (by omega)]
    simp only [toLinePart_eq, Option.bind_some, P.rd_T40, Int.toNat_natCast]
    rw [if_pos (by simp; omega), w64_succ (by omega), ← hf]
    rfl
  · simp only [P.laws_toLinePartS.l0]
    rw [if_neg (by omega)]
theorem eqLinePart_refl (a b c d e f : Int) : P.laws_eqLinePart.f a b c d e f a b c d e f = some true := by simp [P.laws_eqLinePart.f, P.laws_eqHose.f]
theorem eqLinePartS_refl (l : List Lp) (hl : l.length ≤ 1048576) (k : Nat) (hk : l.length < k) : P.laws_eqLinePartS.f k l l = some true := by
  simp only [P.laws_eqLinePartS.f, if_true]
  have := all_loop_end (F := fun k i => P.laws_eqLinePartS.l0 k l l i) (n := l.length) (fun _ => true) true 0 (fun k i _ hi _ => ?_) (fun k _ _ => ?_) l.length 0 k (by omega) (by omega) (fun j hj => rfl)
  · rw [allFrom_true] at this
    exact this
  · simp only [P.laws_eqLinePartS.l0]
    rw [if_pos (by omega), if_pos (by omega), if_pos (by omega), w64_succ (by omega)]
    simp only [eqLinePart_refl, Option.bind_some]
  · simp only [P.laws_eqLinePartS.l0]
    rw [if_neg (by omega)]
theorem szLinePartS_eq (l : List LLp) (hl : l.length ≤ maxLen) : P.laws_szLinePartS.f l 1048576 = some (if l.length ≤ 1048576 then 1048576 - (l.length : Int) else -1) := by
  unfold maxLen at hl
  simp only [P.laws_szLinePartS.f]
  rw [w64 (by omega) (by omega)]
  by_cases h : l.length ≤ 1048576
  · rw [if_neg (by omega), if_pos h]
  · rw [if_pos (by omega), if_neg h]
def mkLp (m : Int) (_ : Lp) : Lp := ⟨m, ⟨m + 1, m + 2⟩, m + 3, m + 4, m + 5⟩
theorem w6 {m : Int} (h0 : 0 ≤ m) (h1 : m + 6 ≤ 1000000000) : wrap64 (m + 1) = m + 1 ∧ wrap64 (m + 1 + 1) = m + 2 ∧ wrap64 (m + 2 + 1) = m + 3 ∧ wrap64 (m + 3 + 1) = m + 4 ∧ wrap64 (m + 4 + 1) = m + 5 ∧ wrap64 (m + 5 + 1) = m + 6 := by
  unfold wrap64
  omega
theorem markLinePartS_eq (l : List Lp) (k : Nat) (h : l.length ≤ 1048576) (hk : l.length < k) : P.laws_markLinePartS.f k l 1 = some (1 + 6 * (l.length : Int), marked mkLp 6 1 l) := by
  refine mark_loop (F := fun k x m i => P.laws_markLinePartS.l0 k x m i) mkLp 6 0 (fun k A x l m _ h0 h1 h => ?_) (fun k A m => ?_) l [] 1 k (by simpa using h) (by omega) (by omega) (by omega)
  · obtain ⟨w1, w2, w3, w4, w5, w6⟩ := w6 h0 (by omega)
    have hg : ∀ (v : Lp), P.rd_T45 (A ++ v :: l) (A.length : Int) = v := fun v => by rw [rd_pp]; exact getD_mid A v l _
    simp only [P.laws_markLinePartS.l0]
    rw [if_pos (by simp; omega), if_pos (by omega)]
    simp only [Option.bind_some, Int.toNat_natCast, hg, set_mid, w1, w2, w3, w4, w5, w6]
    rw [w64_succ (by omega)]
    rfl
  · simp only [P.laws_markLinePartS.l0]
    rw [if_neg (by omega)]
theorem heldLinePartS_eq (l : List Lp) (k : Nat) (h : l.length ≤ 1048576) (hk : l.length < k) : P.laws_heldLinePartS.f k (marked mkLp 6 1 l) 1 = some (1 + 6 * (l.length : Int)) := by
  refine held_loop (F := fun k x m i => P.laws_heldLinePartS.l0 k x m i) mkLp 6 0 (fun k A x l m _ h0 h1 h => ?_) (fun k A m => ?_) l [] 1 k (by simpa using h) (by omega) (by omega) (by omega)
  · obtain ⟨w1, w2, w3, w4, w5, w6⟩ := w6 h0 (by omega)
    have hg : ∀ (v : Lp), P.rd_T45 (A ++ v :: l) (A.length : Int) = v := fun v => by rw [rd_pp]; exact getD_mid A v l _
    simp only [P.laws_heldLinePartS.l0]
    rw [if_pos (by simp; omega), if_pos (by omega)]
    simp only [hg, w1, w2, w3, w4, w5, w6, mkLp, if_true]
    rw [w64_succ (by omega)]
    rfl
  · simp only [P.laws_heldLinePartS.l0]
    rw [if_neg (by omega)]
end Go.Proofs.Ytenfngleiohbhaa

/- Plain lemmas on losses of hoses and flows of branches, with no program in sight. Conditions: none. -/
namespace Go.Proofs.Ytenfngleiohbhaa
open Go.RowKit
set_option linter.unusedSimpArgs false
set_option linter.unusedVariables false
theorem mul_bd {a b A B : Int} (ha : 0 ≤ a) (hA : a ≤ A) (hb : 0 ≤ b) (hB : b ≤ B) : 0 ≤ a * b ∧ a * b ≤ A * B :=
  ⟨Int.mul_nonneg ha hb, Int.mul_le_mul hA hB hb (by omega)⟩
def facOf (k : Int) : Int := if k = 0 then 3 else if k = 1 then 20 else if k = 2 then 160 else 5000
def lossOf (k len flow : Int) : Int := (facOf k * (flow * flow * len) + 99999999) / 100000000
theorem facOf_bd (k : Int) : 3 ≤ facOf k ∧ facOf k ≤ 5000 := by
  unfold facOf
  repeat' split
  all_goals omega
theorem lossOf_bd {k len flow : Int} (h0 : 0 ≤ flow) (h1 : flow ≤ 3000) (h2 : 0 ≤ len) (h3 : len ≤ 5000) : 0 ≤ lossOf k len flow ∧ lossOf k len flow ≤ 2250001 := by
  have a := mul_bd h0 h1 h0 h1
  have b := mul_bd a.1 a.2 h2 h3
  have f := facOf_bd k
  have c := mul_bd (by omega : 0 ≤ facOf k) f.2 b.1 b.2
  unfold lossOf
  omega
/-- m is the greatest flow, up to 3000, whose square a million times is at most S. -/
def IsFl (S m : Int) : Prop := 0 ≤ m ∧ m ≤ 3000 ∧ m * m * 1000000 ≤ S ∧ (m < 3000 → S < (m + 1) * (m + 1) * 1000000)
theorem sq_le {a b : Int} (h0 : 0 ≤ a) (h : a ≤ b) : a * a ≤ b * b := Int.mul_le_mul h h h0 (by omega)
theorem IsFl.uniq {S m n : Int} (h : IsFl S m) (h' : IsFl S n) : m = n := by
  obtain ⟨a0, a1, a2, a3⟩ := h
  obtain ⟨b0, b1, b2, b3⟩ := h'
  rcases Int.lt_trichotomy m n with g | g | g
  · have := sq_le (a := m + 1) (b := n) (by omega) (by omega)
    have := a3 (by omega)
    omega
  · exact g
  · have := sq_le (a := n + 1) (b := m) (by omega) (by omega)
    have := b3 (by omega)
    omega
theorem IsFl.ge {S m f : Int} (h : IsFl S m) (h0 : 0 ≤ f) (h1 : f ≤ 3000) : f ≤ m ↔ f * f * 1000000 ≤ S := by
  obtain ⟨a0, a1, a2, a3⟩ := h
  constructor
  · intro g
    have := sq_le h0 g
    omega
  · intro g
    refine Int.not_lt.1 fun g' => ?_
    have := sq_le (a := m + 1) (b := f) (by omega) (by omega)
    have := a3 (by omega)
    omega
end Go.Proofs.Ytenfngleiohbhaa

/- From some number of rounds on: more rules. Conditions: none. -/
namespace Go.Proofs.Ytenfngleiohbhaa
open Go.RowKit Go.Proofs.YtenfngleiohbhaaW.PrintWords
/-- One round of a loop, where the rest has rounds enough. -/
theorem ev_step {α : Type} {g f : Nat → Option α} {r : α} (K : Nat) (h : ∀ k, K ≤ k → g (k + 1) = f k) (e : Ev f r) : Ev g r := by
  obtain ⟨K', e⟩ := e
  refine ⟨max K K' + 1, fun n hn => ?_⟩
  obtain ⟨m, rfl⟩ : ∃ m, n = m + 1 := ⟨n - 1, by omega⟩
  rw [h m (by omega)]
  exact e m (by omega)
theorem ev_congr {α : Type} {g f : Nat → Option α} {r : α} (K : Nat) (h : ∀ k, K ≤ k → g k = f k) (e : Ev f r) : Ev g r := by
  obtain ⟨K', e⟩ := e
  exact ⟨max K K', fun n hn => (h n (by omega)).trans (e n (by omega))⟩
theorem ev_end {α : Type} {g : Nat → Option α} {r : α} (K : Nat) (h : ∀ k, K ≤ k → g (k + 1) = some r) : Ev g r := by
  refine ⟨K + 1, fun n hn => ?_⟩
  obtain ⟨m, rfl⟩ : ∃ m, n = m + 1 := ⟨n - 1, by omega⟩
  exact h m (by omega)
theorem ev_now {α : Type} {g : Nat → Option α} {r : α} (K : Nat) (h : ∀ k, K ≤ k → g k = some r) : Ev g r := ⟨K, h⟩
theorem ev_both {α β : Type} {g : Nat → Option α} {f : Nat → Option β} {a : α} {b : β} (h : Ev g a) (h' : Ev f b) : ∃ K, ∀ k, K ≤ k → g k = some a ∧ f k = some b := by
  obtain ⟨K, h⟩ := h
  obtain ⟨K', h'⟩ := h'
  exact ⟨max K K', fun k hk => ⟨h k (by omega), h' k (by omega)⟩⟩
end Go.Proofs.Ytenfngleiohbhaa

/- The flow of a branch at a pressure, and the least pressure for a flow: both sides. Conditions: none. -/
namespace Go.Proofs.Ytenfngleiohbhaa
open Go.RowKit Go.Proofs.YtenfngleiohbhaaW.PrintWords
set_option linter.unusedSimpArgs false
set_option linter.unusedVariables false
def qOf (n : Int) : Int := 66 * n * n
theorem qOf_bd {n : Int} (h : 4 ≤ n ∧ n ≤ 40) : 0 ≤ qOf n ∧ qOf n ≤ 105600 := by
  have a := mul_bd (a := n) (b := n) (A := 40) (B := 40) (by omega) h.2 (by omega) h.2
  unfold qOf
  rw [Int.mul_assoc]
  omega
theorem qOf_wrap {n : Int} (h : 4 ≤ n ∧ n ≤ 40) : wrap64 (wrap64 (66 * n) * n) = qOf n := by
  have a := mul_bd (a := n) (b := n) (A := 40) (B := 40) (by omega) h.2 (by omega) h.2
  rw [w64 (x := 66 * n) (by omega) (by omega), Int.mul_assoc, w64 (by omega) (by omega), ← Int.mul_assoc]
  rfl
theorem sOf_bd {n p : Int} (h : 4 ≤ n ∧ n ≤ 40) (hp : 0 ≤ p ∧ p ≤ 2001) : 0 ≤ qOf n * qOf n ∧ qOf n * qOf n ≤ 105600 * 105600 ∧ 0 ≤ qOf n * qOf n * p ∧ qOf n * qOf n * p ≤ 105600 * 105600 * 2001 ∧ 0 ≤ qOf n * p ∧ qOf n * p ≤ 105600 * 2001 := by
  have q := qOf_bd h
  have a := mul_bd q.1 q.2 q.1 q.2
  have b := mul_bd a.1 a.2 hp.1 hp.2
  have c := mul_bd q.1 q.2 hp.1 hp.2
  exact ⟨a.1, a.2, b.1, b.2, c.1, c.2⟩
theorem bf_l0 (S : Int) : ∀ (d x : Nat), x + d = 3000 → (x : Int) * x * 1000000 ≤ S → ∃ m : Int, IsFl S m ∧ Ev (fun k => P.impl_branchFlow.l0 k S (x : Int)) m := by
  intro d
  induction d with
  | zero =>
    intro x h hx
    refine ⟨(x : Int), ⟨by omega, by omega, hx, by omega⟩, ev_end 0 (fun k _ => ?_)⟩
    simp only [P.impl_branchFlow.l0]
    rw [if_neg (by omega)]
  | succ d ih =>
    intro x h hx
    have e : wrap64 ((x : Int) + 1) = ((x + 1 : Nat) : Int) := w64_succ (by omega)
    have b := mul_bd (a := ((x + 1 : Nat) : Int)) (b := ((x + 1 : Nat) : Int)) (A := 3000) (B := 3000) (by omega) (by omega) (by omega) (by omega)
    have e2 : wrap64 (wrap64 (((x + 1 : Nat) : Int) * ((x + 1 : Nat) : Int)) * 1000000) = ((x + 1 : Nat) : Int) * ((x + 1 : Nat) : Int) * 1000000 := by
      rw [w64 (x := ((x + 1 : Nat) : Int) * ((x + 1 : Nat) : Int)) (by omega) (by omega), w64 (by omega) (by omega)]
    by_cases hc : ((x + 1 : Nat) : Int) * ((x + 1 : Nat) : Int) * 1000000 ≤ S
    · obtain ⟨m, hm, ev⟩ := ih (x + 1) (by omega) hc
      refine ⟨m, hm, ev_step 0 (fun k _ => ?_) ev⟩
      simp only [P.impl_branchFlow.l0, e, e2]
      rw [if_pos (by omega), if_pos hc]
    · refine ⟨(x : Int), ⟨by omega, by omega, hx, fun _ => ?_⟩, ev_end 0 (fun k _ => ?_)⟩
      · have : ((x + 1 : Nat) : Int) = (x : Int) + 1 := by omega
        rw [← this]
        omega
      · simp only [P.impl_branchFlow.l0, e, e2]
        rw [if_pos (by omega), if_neg hc]
theorem hb_l0 (p q : Int) (S : Int) (hS : wrap64 (wrap64 (q * q) * p) = S) : ∀ (d : Nat) (low high : Int), 0 ≤ low → high ≤ 3001 → low < high → high - low ≤ (d : Int) → low * low * 1000000 ≤ S → (high = 3001 ∨ S < high * high * 1000000) →
    ∃ m : Int, IsFl S m ∧ Ev (fun k => P.spec_hoBranch.l0 k p q low high) m := by
  intro d
  induction d using Nat.strongRecOn with
  | ind d ih =>
    intro low high h0 h1 h2 h3 h4 h5
    have hd : wrap64 (high - low) = high - low := w64 (by omega) (by omega)
    by_cases hc : high - low > 1
    · obtain ⟨m, hm, hm1, hm2⟩ : ∃ m : Int, m = (low + high) / 2 ∧ low < m ∧ m < high := ⟨_, rfl, by omega, by omega⟩
      have hmI : wrap64 (Int.tdiv (wrap64 (low + high)) 2) = m := by
        rw [w64 (x := low + high) (by omega) (by omega), Int.tdiv_eq_ediv_of_nonneg (by omega), w64 (by omega) (by omega), hm]
      have b := mul_bd (a := m) (b := m) (A := 3001) (B := 3001) (by omega) (by omega) (by omega) (by omega)
      have e2 : wrap64 (wrap64 (m * m) * 1000000) = m * m * 1000000 := by
        rw [w64 (x := m * m) (by omega) (by omega), w64 (by omega) (by omega)]
      by_cases hs : m * m * 1000000 ≤ S
      · obtain ⟨r, hr, ev⟩ := ih (high - m).toNat (by omega) m high (by omega) h1 hm2 (by omega) hs h5
        refine ⟨r, hr, ev_step 0 (fun k _ => ?_) ev⟩
        simp only [P.spec_hoBranch.l0, hd, hmI, hS, e2]
        rw [if_pos hc, if_pos hs]
      · obtain ⟨r, hr, ev⟩ := ih (m - low).toNat (by omega) low m h0 (by omega) hm1 (by omega) h4 (.inr (by omega))
        refine ⟨r, hr, ev_step 0 (fun k _ => ?_) ev⟩
        simp only [P.spec_hoBranch.l0, hd, hmI, hS, e2]
        rw [if_pos hc, if_neg hs]
    · obtain rfl : high = low + 1 := by omega
      refine ⟨low, ⟨h0, by omega, h4, fun hlt => ?_⟩, ev_end 0 (fun k _ => ?_)⟩
      · rcases h5 with h5 | h5
        · omega
        · exact h5
      · simp only [P.spec_hoBranch.l0, hd]
        rw [if_neg hc]
/-- The flow of a branch. -/
theorem branch_ev {n p : Int} (h : 4 ≤ n ∧ n ≤ 40) (hp : 0 ≤ p ∧ p ≤ 2001) : ∃ m : Int, IsFl (qOf n * qOf n * p) m ∧ Ev (fun k => P.impl_branchFlow.f k n p) m ∧ Ev (fun k => P.spec_hoBranch.f k n p) m := by
  have hb := sOf_bd h hp
  have hS : wrap64 (wrap64 (qOf n * qOf n) * p) = qOf n * qOf n * p := by
    rw [w64 (x := qOf n * qOf n) (by omega) (by omega), w64 (by omega) (by omega)]
  obtain ⟨m, hm, e1⟩ := bf_l0 (qOf n * qOf n * p) 3000 0 (by omega) (by omega)
  obtain ⟨m', hm', e2⟩ := hb_l0 p (qOf n) _ hS 3001 0 3001 (by omega) (by omega) (by omega) (by omega) (by omega) (.inl rfl)
  obtain rfl := hm.uniq hm'
  refine ⟨m, hm, ev_congr 0 (fun k _ => ?_) e1, ev_congr 0 (fun k _ => ?_) e2⟩
  · simp only [P.impl_branchFlow.f, qOf_wrap h]
    rw [w64 (x := qOf n * p) (by omega) (by omega), ← Int.mul_assoc, w64 (by omega) (by omega)]
    rfl
  · simp only [P.spec_hoBranch.f, qOf_wrap h]
/-- The least pressure from p on, at most d more, at which Q times it is at least F. -/
def firstP (Q F : Int) : Nat → Int → Int
  | 0, p => p
  | d + 1, p => if F ≤ Q * p then p else firstP Q F d (p + 1)
theorem firstP_spec (Q F : Int) : ∀ (d : Nat) (p : Int), p ≤ firstP Q F d p ∧ firstP Q F d p ≤ p + d ∧ (∀ x, p ≤ x → x < firstP Q F d p → Q * x < F) ∧ (firstP Q F d p < p + d → F ≤ Q * firstP Q F d p)
  | 0, p => by
    simp only [firstP]
    exact ⟨by omega, by omega, fun x h1 h2 => by omega, fun h => by omega⟩
  | d + 1, p => by
    simp only [firstP]
    by_cases hc : F ≤ Q * p
    · rw [if_pos hc]
      exact ⟨by omega, by omega, fun x h1 h2 => by omega, fun _ => hc⟩
    · rw [if_neg hc]
      obtain ⟨h1, h2, h3, h4⟩ := firstP_spec Q F d (p + 1)
      refine ⟨by omega, by omega, fun x x1 x2 => ?_, fun h => h4 (by omega)⟩
      by_cases e : x = p
      · rw [e]; omega
      · exact h3 x (by omega) x2
/-- The least pressure for a flow; 2001 if there is none. -/
def pressOf (n f : Int) : Int := firstP (qOf n * qOf n) (f * f * 1000000) 2001 0
theorem pressOf_spec (n f : Int) : 0 ≤ pressOf n f ∧ pressOf n f ≤ 2001 ∧ (∀ x, 0 ≤ x → x < pressOf n f → qOf n * qOf n * x < f * f * 1000000) ∧ (pressOf n f ≤ 2000 → f * f * 1000000 ≤ qOf n * qOf n * pressOf n f) := by
  have h := firstP_spec (qOf n * qOf n) (f * f * 1000000) 2001 0
  refine ⟨h.1, by have := h.2.1; simp only [pressOf]; omega, h.2.2.1, fun h' => h.2.2.2 ?_⟩
  simp only [pressOf] at h'
  omega
theorem pressOf_le {n f : Int} (h : 4 ≤ n ∧ n ≤ 40) {p : Int} (hp : 0 ≤ p ∧ p ≤ 2000) : pressOf n f ≤ p ↔ f * f * 1000000 ≤ qOf n * qOf n * p := by
  obtain ⟨h1, h2, h3, h4⟩ := pressOf_spec n f
  constructor
  · intro g
    have := Int.mul_le_mul_of_nonneg_left g (sOf_bd (p := 0) h ⟨by omega, by omega⟩).1
    have := h4 (by omega)
    omega
  · intro g
    refine Int.not_lt.1 fun g' => ?_
    have := h3 p hp.1 g'
    omega
theorem need_l0' {n f : Int} (h : 4 ≤ n ∧ n ≤ 40) (hf : 0 ≤ f ∧ f ≤ 3000) : ∀ (d : Nat) (low high : Int), -1 ≤ low → high ≤ 2001 → low < high → high - low ≤ (d : Int) → low < pressOf n f → pressOf n f ≤ high →
    Ev (fun k => P.spec_hoNeeds.l0 k n f low high) (pressOf n f, decide (pressOf n f ≤ 2000)) := by
  intro d
  induction d using Nat.strongRecOn with
  | ind d ih =>
    intro low high h0 h1 h2 h3 h4 h5
    have hd : wrap64 (high - low) = high - low := w64 (by omega) (by omega)
    by_cases hc : high - low > 1
    · obtain ⟨m, hm, hm1, hm2⟩ : ∃ m : Int, m = (low + high) / 2 ∧ low < m ∧ m < high := ⟨_, rfl, by omega, by omega⟩
      have hmI : wrap64 (Int.tdiv (wrap64 (low + high)) 2) = m := by
        rw [w64 (x := low + high) (by omega) (by omega), Int.tdiv_eq_ediv_of_nonneg (by omega), w64 (by omega) (by omega), hm]
      obtain ⟨r, hr, _, K, hK⟩ := branch_ev (p := m) h ⟨by omega, by omega⟩
      have hge := hr.ge hf.1 hf.2
      have hpl := pressOf_le (f := f) h (p := m) ⟨by omega, by omega⟩
      by_cases hs : f ≤ r
      · refine ev_step K (fun k hk => ?_) (ih (m - low).toNat (by omega) low m h0 (by omega) hm1 (by omega) h4 (hpl.2 (hge.1 hs)))
        simp only [P.spec_hoNeeds.l0, hd, hmI, hK k hk, Option.bind_some]
        rw [if_pos hc, if_pos hs]
      · refine ev_step K (fun k hk => ?_) (ih (high - m).toNat (by omega) m high (by omega) h1 hm2 (by omega) (Int.not_le.1 (fun g => hs (hge.2 (hpl.1 g)))) h5)
        simp only [P.spec_hoNeeds.l0, hd, hmI, hK k hk, Option.bind_some]
        rw [if_pos hc, if_neg hs]
    · obtain rfl : high = low + 1 := by omega
      obtain e : pressOf n f = low + 1 := by omega
      refine ev_end 0 (fun k _ => ?_)
      simp only [P.spec_hoNeeds.l0, hd]
      rw [if_neg hc, e]
theorem press_l0 {n f : Int} (h : 4 ≤ n ∧ n ≤ 40) (hf : 0 ≤ f ∧ f ≤ 3000) : ∀ (d : Nat) (low high : Int), 0 ≤ low → high ≤ 2000 → low ≤ high → high - low ≤ (d : Int) → low ≤ pressOf n f → (high = 2000 ∨ pressOf n f ≤ high) →
    Ev (fun k => P.impl_branchPressure.l0 k n f low high) (if pressOf n f ≤ 2000 then (pressOf n f, true) else (0, false)) := by
  intro d
  induction d using Nat.strongRecOn with
  | ind d ih =>
    intro low high h0 h1 h2 h3 h4 h5
    by_cases hc : low < high
    · obtain ⟨m, hm, hm1, hm2⟩ : ∃ m : Int, m = (low + high) / 2 ∧ low ≤ m ∧ m < high := ⟨_, rfl, by omega, by omega⟩
      have hmI : wrap64 (Int.tdiv (wrap64 (low + high)) 2) = m := by
        rw [w64 (x := low + high) (by omega) (by omega), Int.tdiv_eq_ediv_of_nonneg (by omega), w64 (by omega) (by omega), hm]
      have hm3 : wrap64 (m + 1) = m + 1 := w64 (by omega) (by omega)
      obtain ⟨r, hr, ⟨K, hK⟩, _⟩ := branch_ev (p := m) h ⟨by omega, by omega⟩
      have hge := hr.ge hf.1 hf.2
      have hpl := pressOf_le (f := f) h (p := m) ⟨by omega, by omega⟩
      by_cases hs : f ≤ r
      · refine ev_step K (fun k hk => ?_) (ih (m - low).toNat (by omega) low m h0 (by omega) hm1 (by omega) h4 (.inr (hpl.2 (hge.1 hs))))
        simp only [P.impl_branchPressure.l0, hmI, hK k hk, Option.bind_some]
        rw [if_pos hc, if_pos hs]
      · have hlt : m < pressOf n f := Int.not_le.1 (fun g => hs (hge.2 (hpl.1 g)))
        refine ev_step K (fun k hk => ?_) (ih (high - (m + 1)).toNat (by omega) (m + 1) high (by omega) h1 (by omega) (by omega) (by omega) h5)
        simp only [P.impl_branchPressure.l0, hmI, hK k hk, Option.bind_some, hm3]
        rw [if_pos hc, if_neg hs]
    · obtain rfl : low = high := by omega
      obtain ⟨r, hr, ⟨K, hK⟩, _⟩ := branch_ev (p := low) h ⟨by omega, by omega⟩
      have hge := hr.ge hf.1 hf.2
      have hpl := pressOf_le (f := f) h (p := low) ⟨by omega, by omega⟩
      refine ev_end K (fun k hk => ?_)
      simp only [P.impl_branchPressure.l0, hK k hk, Option.bind_some]
      rw [if_neg hc]
      by_cases hs : f ≤ r
      · have g := hpl.2 (hge.1 hs)
        rw [if_neg (by omega), if_pos (by omega), show pressOf n f = low by omega]
      · have g : ¬ pressOf n f ≤ low := fun g => hs (hge.2 (hpl.1 g))
        rw [if_pos (by omega), if_neg (by omega)]
/-- The least pressure for a flow. -/
theorem press_ev {n f : Int} (h : 4 ≤ n ∧ n ≤ 40) (hf : 0 ≤ f ∧ f ≤ 3000) : Ev (fun k => P.impl_branchPressure.f k n f) (if pressOf n f ≤ 2000 then (pressOf n f, true) else (0, false)) ∧ Ev (fun k => P.spec_hoNeeds.f k n f) (pressOf n f, decide (pressOf n f ≤ 2000)) := by
  have hs := pressOf_spec n f
  exact ⟨press_l0 h hf 2000 0 2000 (by omega) (by omega) (by omega) (by omega) hs.1 (.inl rfl), need_l0' h hf 2002 (-1) 2001 (by omega) (by omega) (by omega) (by omega) (by omega) hs.2.1⟩
end Go.Proofs.Ytenfngleiohbhaa

/- Hose lines: both sides say the same of a line; flows, water. Conditions: none. -/
namespace Go.Proofs.Ytenfngleiohbhaa
open Go.RowKit Go.Proofs.YtenfngleiohbhaaW.PrintWords
set_option linter.unusedSimpArgs false
set_option linter.unusedVariables false
theorem rd_nat' (l : List Int) (i : Nat) : rd l (i : Int) = l.getD i 0 := by simp [rd]
theorem getD_set' {α : Type} (l : List α) (i j : Nat) (v z : α) (h : i < l.length) : (l.set i v).getD j z = if i = j then v else l.getD j z := by
  simp only [List.getD_eq_getElem?_getD, List.getElem?_set]
  by_cases e : i = j
  · subst e; simp [h]
  · simp [e]
/-! ### One part -/
/-- A part, by itself. -/
def partOk (x : Lp) : Bool := decide ((0 ≤ x.f1.f0 ∧ x.f1.f0 ≤ 3) ∧ (1 ≤ x.f1.f1 ∧ x.f1.f1 ≤ 5000) ∧ (-500 ≤ x.f2 ∧ x.f2 ≤ 500) ∧ (x.f3 = 0 → x.f4 = 0) ∧ (x.f3 ≠ 0 → (4 ≤ x.f3 ∧ x.f3 ≤ 40) ∧ (1 ≤ x.f4 ∧ x.f4 ≤ 3000) ∧ pressOf x.f3 x.f4 ≤ 2000))
theorem isHose_eq (a b : Int) : P.impl_isHose.f a b = some (decide ((0 ≤ a ∧ a ≤ 3) ∧ (1 ≤ b ∧ b ≤ 5000))) := by
  simp only [P.impl_isHose.f, inside_eq, Option.bind_some]
  by_cases h : 0 ≤ a ∧ a ≤ 3 <;> by_cases h' : 1 ≤ b ∧ b ≤ 5000 <;> simp [h, h']
theorem hoOne_eq (a b : Int) : P.spec_hoOne.f a b = some (decide ((0 ≤ a ∧ a ≤ 3) ∧ (1 ≤ b ∧ b ≤ 5000))) := by
  simp only [P.spec_hoOne.f, l1In_eq, Option.bind_some]
  by_cases h : 0 ≤ a ∧ a ≤ 3 <;> by_cases h' : 1 ≤ b ∧ b ≤ 5000 <;> simp [h, h']
theorem isLinePart_ev (x : Lp) : Ev (fun k => P.impl_isLinePart.f k x.f0 x.f1.f0 x.f1.f1 x.f2 x.f3 x.f4) (partOk x) := by
  by_cases h1 : (0 ≤ x.f1.f0 ∧ x.f1.f0 ≤ 3) ∧ (1 ≤ x.f1.f1 ∧ x.f1.f1 ≤ 5000)
  · by_cases h2 : -500 ≤ x.f2 ∧ x.f2 ≤ 500
    · by_cases h3 : x.f3 = 0
      · refine ev_end 0 (fun k _ => ?_)
        simp only [P.impl_isLinePart.f, isHose_eq, inside_eq, Option.bind_some, decide_eq_true h1, decide_eq_true h2, if_true, P.impl_isLinePart.j0, Bool.not_true, Bool.false_eq_true, if_false]
        rw [if_pos h3]
        simp only [partOk, Option.some.injEq]
        rw [Bool.eq_iff_iff]
        simp only [beq_iff_eq, decide_eq_true_eq]
        exact ⟨fun h => ⟨h1.1, h1.2, h2, fun _ => h, fun h' => absurd h3 h'⟩, fun h => h.2.2.2.1 h3⟩
      · by_cases h4 : (4 ≤ x.f3 ∧ x.f3 ≤ 40) ∧ (1 ≤ x.f4 ∧ x.f4 ≤ 3000)
        · obtain ⟨K, hK⟩ := (press_ev h4.1 (f := x.f4) ⟨by omega, by omega⟩).1
          refine ev_end K (fun k hk => ?_)
          have hk2 := hK k hk
          simp only [P.impl_isLinePart.f, isHose_eq, inside_eq, Option.bind_some, decide_eq_true h1, decide_eq_true h2, if_true, P.impl_isLinePart.j0, Bool.not_true, Bool.false_eq_true, if_false, decide_eq_true h4.1, decide_eq_true h4.2, hk2]
          rw [if_neg h3]
          simp only [partOk, Option.some.injEq]
          rw [Bool.eq_iff_iff]
          simp only [decide_eq_true_eq]
          by_cases h5 : pressOf x.f3 x.f4 ≤ 2000
          · rw [if_pos h5]
            exact ⟨fun _ => ⟨h1.1, h1.2, h2, fun h' => absurd h' h3, fun _ => ⟨h4.1, h4.2, h5⟩⟩, fun _ => rfl⟩
          · rw [if_neg h5]
            exact ⟨fun h => absurd h (by decide), fun h => absurd (h.2.2.2.2 h3).2.2 h5⟩
        · refine ev_end 0 (fun k _ => ?_)
          have hp : partOk x = false := by
            simp only [partOk]
            exact decide_eq_false (fun h => h4 ⟨(h.2.2.2.2 h3).1, (h.2.2.2.2 h3).2.1⟩)
          rw [hp]
          simp only [P.impl_isLinePart.f, isHose_eq, inside_eq, Option.bind_some, decide_eq_true h1, decide_eq_true h2, if_true, P.impl_isLinePart.j0, Bool.not_true, Bool.false_eq_true, if_false]
          rw [if_neg h3]
          by_cases h5 : 4 ≤ x.f3 ∧ x.f3 ≤ 40
          · simp only [decide_eq_true h5, decide_eq_false (fun h => h4 ⟨h5, h⟩), if_true, Bool.false_eq_true, if_false]
          · simp only [decide_eq_false h5, Bool.false_eq_true, if_false]
    · refine ev_end 0 (fun k _ => ?_)
      have hp : partOk x = false := by
        simp only [partOk]
        exact decide_eq_false (fun h => h2 h.2.2.1)
      rw [hp]
      simp only [P.impl_isLinePart.f, isHose_eq, inside_eq, Option.bind_some, decide_eq_true h1, decide_eq_false h2, if_true, P.impl_isLinePart.j0, Bool.not_false, Bool.false_eq_true, if_false]
  · refine ev_end 0 (fun k _ => ?_)
    have hp : partOk x = false := by
      simp only [partOk]
      exact decide_eq_false (fun h => h1 ⟨h.1, h.2.1⟩)
    rw [hp]
    simp only [P.impl_isLinePart.f, isHose_eq, inside_eq, Option.bind_some, decide_eq_false h1, if_true, P.impl_isLinePart.j0, Bool.false_eq_true, if_false]
/-- The specification's test of what a part is by itself. -/
theorem liPart_j0_ev (x : Lp) (h1 : (0 ≤ x.f1.f0 ∧ x.f1.f0 ≤ 3) ∧ (1 ≤ x.f1.f1 ∧ x.f1.f1 ≤ 5000)) (h2 : -500 ≤ x.f2 ∧ x.f2 ≤ 500) : Ev (fun k => P.spec_liPart.j0 k false x.f0 x.f1.f0 x.f1.f1 x.f2 x.f3 x.f4) (partOk x) := by
  by_cases h3 : x.f3 = 0
  · refine ev_end 0 (fun k _ => ?_)
    simp only [P.spec_liPart.j0, Bool.false_eq_true, if_false]
    rw [if_pos h3]
    simp only [partOk, Option.some.injEq]
    rw [Bool.eq_iff_iff]
    simp only [beq_iff_eq, decide_eq_true_eq]
    exact ⟨fun h => ⟨h1.1, h1.2, h2, fun _ => h, fun h' => absurd h3 h'⟩, fun h => h.2.2.2.1 h3⟩
  · by_cases h4 : (4 ≤ x.f3 ∧ x.f3 ≤ 40) ∧ (1 ≤ x.f4 ∧ x.f4 ≤ 3000)
    · obtain ⟨K, hK⟩ := (press_ev h4.1 (f := x.f4) ⟨by omega, by omega⟩).2
      refine ev_end K (fun k hk => ?_)
      have hk2 := hK k hk
      simp only [P.spec_liPart.j0, P.spec_hoNozzle.f, l1In_eq, Option.bind_some, if_true, Bool.false_eq_true, if_false, decide_eq_true h4.1, decide_eq_true h4.2, hk2]
      rw [if_neg h3]
      simp only [partOk, Option.some.injEq]
      rw [Bool.eq_iff_iff]
      simp only [decide_eq_true_eq]
      exact ⟨fun h5 => ⟨h1.1, h1.2, h2, fun h' => absurd h' h3, fun _ => ⟨h4.1, h4.2, h5⟩⟩, fun h => (h.2.2.2.2 h3).2.2⟩
    · refine ev_end 0 (fun k _ => ?_)
      have hp : partOk x = false := by
        simp only [partOk]
        exact decide_eq_false (fun h => h4 ⟨(h.2.2.2.2 h3).1, (h.2.2.2.2 h3).2.1⟩)
      rw [hp]
      simp only [P.spec_liPart.j0, P.spec_hoNozzle.f, l1In_eq, Option.bind_some, if_true, Bool.false_eq_true, if_false]
      rw [if_neg h3]
      by_cases h5 : 4 ≤ x.f3 ∧ x.f3 ≤ 40
      · simp only [decide_eq_true h5, decide_eq_false (fun h => h4 ⟨h5, h⟩), if_true, Bool.false_eq_true, if_false]
      · simp only [decide_eq_false h5, Bool.false_eq_true, if_false]
/-- What part number i lies behind. -/
def behOk (l : List Lp) (i : Nat) : Bool := decide (-1 ≤ (pp l i).f0 ∧ (pp l i).f0 ≤ (i : Int) - 1 ∧ (0 ≤ (pp l i).f0 → (pp l (pp l i).f0.toNat).f3 ≤ 0))
def partB (l : List Lp) (i : Nat) : Bool := partOk (pp l i) && behOk l i
theorem rd_pp' (l : List Lp) (a : Int) (h : 0 ≤ a) : P.rd_T45 l a = pp l a.toNat := by
  have := rd_pp l a.toNat
  rw [Int.toNat_of_nonneg h] at this
  exact this
theorem liPart_ev (l : List Lp) (hl : l.length ≤ 12) (i : Nat) (hi : i < l.length) : Ev (fun k => P.spec_liPart.f k l (i : Int)) (partB l i) := by
  have hw : wrap64 ((i : Int) - 1) = (i : Int) - 1 := w64 (by omega) (by omega)
  have ht : Ev (fun k => P.spec_liPart.j0 k true (pp l i).f0 (pp l i).f1.f0 (pp l i).f1.f1 (pp l i).f2 (pp l i).f3 (pp l i).f4) false := ev_end 0 (fun k _ => by simp only [P.spec_liPart.j0, if_true])
  by_cases h0 : -1 ≤ (pp l i).f0 ∧ (pp l i).f0 ≤ (i : Int) - 1
  · by_cases hn : 0 ≤ (pp l i).f0 ∧ (pp l (pp l i).f0.toNat).f3 > 0
    · have hp : partB l i = false := by
        simp only [partB, behOk]
        rw [decide_eq_false (fun h => by have := h.2.2 hn.1; omega), Bool.and_false]
      rw [hp]
      refine ev_congr 0 (fun k _ => ?_) ht
      simp only [P.spec_liPart.f, rd_pp, l1In_eq, hw, decide_eq_true h0, Option.bind_some, if_true]
      rw [if_pos (by omega), if_pos (by omega), if_pos (by omega), if_pos (by omega), if_pos (by omega), rd_pp' _ _ hn.1, if_pos hn.2]
    · have hrest : Ev (fun k => (P.spec_hoOne.f (pp l i).f1.f0 (pp l i).f1.f1).bind fun t126 => (if t126 = true then ((P.spec_l1In.f (pp l i).f2 (-500) 500).bind fun t127 => (P.spec_liPart.j0 k (!t127) (pp l i).f0 (pp l i).f1.f0 (pp l i).f1.f1 (pp l i).f2 (pp l i).f3 (pp l i).f4)) else (P.spec_liPart.j0 k true (pp l i).f0 (pp l i).f1.f0 (pp l i).f1.f1 (pp l i).f2 (pp l i).f3 (pp l i).f4))) (partB l i) := by
        have hb : behOk l i = true := by
          simp only [behOk]
          exact decide_eq_true ⟨h0.1, h0.2, fun h => Int.not_lt.1 (fun h' => hn ⟨h, h'⟩)⟩
        have hpB : partB l i = partOk (pp l i) := by simp [partB, hb]
        rw [hpB]
        simp only [hoOne_eq, l1In_eq, Option.bind_some]
        by_cases h1 : (0 ≤ (pp l i).f1.f0 ∧ (pp l i).f1.f0 ≤ 3) ∧ (1 ≤ (pp l i).f1.f1 ∧ (pp l i).f1.f1 ≤ 5000)
        · rw [decide_eq_true h1]
          simp only [if_true]
          by_cases h2 : -500 ≤ (pp l i).f2 ∧ (pp l i).f2 ≤ 500
          · rw [decide_eq_true h2]
            exact liPart_j0_ev _ h1 h2
          · rw [decide_eq_false h2, show partOk (pp l i) = false from decide_eq_false (fun h => h2 h.2.2.1)]
            exact ht
        · rw [decide_eq_false h1, show partOk (pp l i) = false from decide_eq_false (fun h => h1 ⟨h.1, h.2.1⟩)]
          simp only [Bool.false_eq_true, if_false]
          exact ht
      refine ev_congr 0 (fun k _ => ?_) hrest
      simp only [P.spec_liPart.f, rd_pp, l1In_eq, hw, decide_eq_true h0, Option.bind_some, if_true]
      rw [if_pos (by omega), if_pos (by omega)]
      by_cases h1 : (pp l i).f0 ≥ 0
      · rw [if_pos h1, if_pos h1, if_pos (by omega), rd_pp' _ _ h1, if_neg (fun h => hn ⟨h1, h⟩)]
      · rw [if_neg h1]
  · have hp : partB l i = false := by
      simp only [partB, behOk]
      rw [decide_eq_false (fun h => h0 ⟨h.1, h.2.1⟩), Bool.and_false]
    rw [hp]
    refine ev_congr 0 (fun k _ => ?_) ht
    simp only [P.spec_liPart.f, rd_pp, l1In_eq, hw, decide_eq_false h0, Option.bind_some, Bool.false_eq_true, if_false]
    rw [if_pos (by omega), if_pos (by omega)]
end Go.Proofs.Ytenfngleiohbhaa

/- The flows in the parts of a hose line. Conditions: none. -/
namespace Go.Proofs.Ytenfngleiohbhaa
open Go.RowKit Go.Proofs.YtenfngleiohbhaaW.PrintWords
set_option linter.unusedSimpArgs false
set_option linter.unusedVariables false
abbrev gi (l : List Int) (j : Nat) : Int := l.getD j 0
theorem gi_set (l : List Int) (i j : Nat) (v : Int) (h : i < l.length) : gi (l.set i v) j = if i = j then v else gi l j := getD_set' l i j v 0 h
theorem rd_gi (l : List Int) (j : Nat) : rd l (j : Int) = gi l j := rd_nat' l j
theorem rd_gi' (l : List Int) (a : Int) : rd l a = gi l a.toNat := rfl
def flowStep (l : List Lp) (F : List Int) (i : Nat) : List Int :=
  if (pp l i).f0 ≥ 0 then (F.set i (wrap64 (gi F i + (pp l i).f4))).set (pp l i).f0.toNat (wrap64 (gi (F.set i (wrap64 (gi F i + (pp l i).f4))) (pp l i).f0.toNat + gi (F.set i (wrap64 (gi F i + (pp l i).f4))) i))
  else F.set i (wrap64 (gi F i + (pp l i).f4))
def flowsFrom (l : List Lp) : Nat → List Int → List Int
  | 0, F => F
  | i + 1, F => flowsFrom l i (flowStep l F i)
def flowsOf (l : List Lp) : List Int := flowsFrom l l.length (List.replicate l.length 0)
theorem flowStep_length (l : List Lp) (F : List Int) (i : Nat) : (flowStep l F i).length = F.length := by
  unfold flowStep
  split <;> simp
theorem flowsFrom_length (l : List Lp) : ∀ (i : Nat) (F : List Int), (flowsFrom l i F).length = F.length
  | 0, F => rfl
  | i + 1, F => by simp only [flowsFrom]; rw [flowsFrom_length l i, flowStep_length]
theorem flowsOf_length (l : List Lp) : (flowsOf l).length = l.length := by simp [flowsOf, flowsFrom_length]
/-- Each part lies behind an earlier one, or behind the pump. -/
def Beh (l : List Lp) : Prop := ∀ i, i < l.length → -1 ≤ (pp l i).f0 ∧ (pp l i).f0 ≤ (i : Int) - 1
theorem flowsIn_l0 (l : List Lp) (hl : l.length ≤ 12) (hb : Beh l) : ∀ (i k : Nat) (F : List Int), i ≤ l.length → F.length = l.length → i < k → P.impl_flowsIn.l0 k l F ((i : Int) - 1) = some (flowsFrom l i F) ∧ P.spec_liFlows.l0 k l F ((i : Int) - 1) = some (flowsFrom l i F) := by
  intro i
  induction i with
  | zero =>
    intro k F h hF hk
    obtain ⟨k, rfl⟩ : ∃ m, k = m + 1 := ⟨k - 1, by omega⟩
    simp only [P.impl_flowsIn.l0, P.spec_liFlows.l0]
    rw [if_neg (by omega), if_neg (by omega)]
    exact ⟨rfl, rfl⟩
  | succ i ih =>
    intro k F h hF hk
    obtain ⟨k, rfl⟩ : ∃ m, k = m + 1 := ⟨k - 1, by omega⟩
    have h1 := hb i (by omega)
    have hr := ih k (flowStep l F i) (by omega) (by rw [flowStep_length]; exact hF) (by omega)
    have hw : wrap64 ((i : Int) - 1) = (i : Int) - 1 := w64 (by omega) (by omega)
    rw [show ((i + 1 : Nat) : Int) - 1 = (i : Int) by omega]
    simp only [P.impl_flowsIn.l0, P.spec_liFlows.l0, hw]
    rw [if_pos (by omega), if_pos (by omega), if_pos (by omega), if_pos (by omega), if_pos (by omega), if_pos (by omega), if_pos (by omega), if_pos (by omega)]
    simp only [Option.bind_some, rd_pp, Int.toNat_natCast, rd_gi]
    simp only [flowsFrom]
    by_cases hc : (pp l i).f0 ≥ 0
    · have e : flowStep l F i = (F.set i (wrap64 (gi F i + (pp l i).f4))).set (pp l i).f0.toNat (wrap64 (gi (F.set i (wrap64 (gi F i + (pp l i).f4))) (pp l i).f0.toNat + gi (F.set i (wrap64 (gi F i + (pp l i).f4))) i)) := by unfold flowStep; rw [if_pos hc]
      have hc' : (0 : Int) ≤ (pp l i).f0 := hc
      have hlt : (pp l i).f0 < (F.length : Int) := by omega
      simp only [ge_iff_le, if_pos hc', if_pos hlt, rd_gi']
      rw [e] at hr ⊢
      exact hr
    · have e : flowStep l F i = F.set i (wrap64 (gi F i + (pp l i).f4)) := by unfold flowStep; rw [if_neg hc]
      rw [if_neg hc, if_neg hc]
      rw [e] at hr ⊢
      exact hr
theorem flowsIn_eq (l : List Lp) (hl : l.length ≤ 12) (hb : Beh l) (k : Nat) (hk : 20 < k) : P.impl_flowsIn.f k l = some (flowsOf l) ∧ P.spec_liFlows.f k l = some (flowsOf l) := by
  have h := flowsIn_l0 l hl hb l.length k (List.replicate l.length 0) (Nat.le_refl _) (by simp) (by omega)
  simp only [P.impl_flowsIn.f, P.spec_liFlows.f]
  rw [if_pos (by omega), if_pos (by omega), if_pos (by omega), if_pos (by omega), w64 (by omega) (by omega), Int.toNat_natCast]
  exact h
/-! ### Water -/
def waterFrom (l : List Lp) (F : List Int) : Nat → Nat → Int → Int
  | 0, _, s => s
  | d + 1, i, s => waterFrom l F d (i + 1) (if (pp l i).f0 < 0 then wrap64 (s + gi F i) else s)
def waterOf (l : List Lp) : Int := waterFrom l (flowsOf l) l.length 0 0
theorem water_l0 (l : List Lp) (hl : l.length ≤ 12) (F : List Int) (hF : F.length = l.length) : ∀ (d i k : Nat) (s : Int), i + d = l.length → d < k → P.impl_waterOf.l0 k l s F (F.length : Int) (i : Int) = some (waterFrom l F d i s) ∧ P.spec_liWater.l0 k l s F (F.length : Int) (i : Int) = some (waterFrom l F d i s) := by
  intro d
  induction d with
  | zero =>
    intro i k s h hk
    obtain ⟨k, rfl⟩ : ∃ m, k = m + 1 := ⟨k - 1, by omega⟩
    simp only [P.impl_waterOf.l0, P.spec_liWater.l0]
    rw [if_neg (by omega), if_neg (by omega)]
    exact ⟨rfl, rfl⟩
  | succ d ih =>
    intro i k s h hk
    obtain ⟨k, rfl⟩ : ∃ m, k = m + 1 := ⟨k - 1, by omega⟩
    simp only [P.impl_waterOf.l0, P.spec_liWater.l0]
    have c1 : (i : Int) < (F.length : Int) := by omega
    have c2 : (0 : Int) ≤ (i : Int) := by omega
    have c3 : (i : Int) < (l.length : Int) := by omega
    simp only [if_pos c1, if_pos c2, if_pos c3]
    rw [w64_succ (by omega)]
    simp only [rd_pp, rd_gi, waterFrom]
    by_cases hc : (pp l i).f0 < 0
    · rw [if_pos hc, if_pos hc, if_pos hc]
      exact ih (i + 1) k _ (by omega) (by omega)
    · rw [if_neg hc, if_neg hc, if_neg hc]
      exact ih (i + 1) k _ (by omega) (by omega)
theorem water_eq (l : List Lp) (hl : l.length ≤ 12) (hb : Beh l) (k : Nat) (hk : 20 < k) : P.impl_waterOf.f k l = some (waterOf l) ∧ P.spec_liWater.f k l = some (waterOf l) := by
  have h := flowsIn_eq l hl hb k hk
  have h2 := water_l0 l hl (flowsOf l) (flowsOf_length l) l.length 0 k 0 (by omega) (by omega)
  simp only [P.impl_waterOf.f, P.spec_liWater.f, h.1, h.2, Option.bind_some]
  exact h2
/-! ### What the flows are -/
def bnd : Nat → Int
  | 0 => 0
  | t + 1 => 2 * bnd t + 6000
theorem bnd_mono : ∀ t, 0 ≤ bnd t ∧ bnd t ≤ bnd (t + 1)
  | 0 => by simp [bnd]
  | t + 1 => by
    have := bnd_mono t
    have e : bnd (t + 1) = 2 * bnd t + 6000 := rfl
    have e2 : bnd (t + 1 + 1) = 2 * bnd (t + 1) + 6000 := rfl
    omega
theorem bnd_le : ∀ t, t ≤ 12 → bnd t ≤ 24570000 := by
  have h : ∀ d t, t + d = 12 → bnd t ≤ bnd 12 := by
    intro d
    induction d with
    | zero => intro t h; rw [show t = 12 by omega]; exact Int.le_refl _
    | succ d ih =>
      intro t h
      have := ih (t + 1) (by omega)
      have := (bnd_mono t).2
      omega
  intro t ht
  have := h (12 - t) t (by omega)
  have e : bnd 12 = 24570000 := rfl
  omega
structure FlowInv (l : List Lp) (t : Nat) (F : List Int) : Prop where
  len : F.length = l.length
  bd : ∀ j, j < l.length → 0 ≤ gi F j ∧ gi F j ≤ bnd (l.length - t)
  lo : ∀ i, t ≤ i → i < l.length → 0 ≤ (pp l i).f0 → gi F i ≤ gi F (pp l i).f0.toNat
  own : ∀ j, t ≤ j → j < l.length → (pp l j).f4 ≤ gi F j
  zero : ∀ j, j < l.length → (∀ i, t ≤ i → i < l.length → (pp l i).f0 ≠ (j : Int)) → gi F j = if t ≤ j then (pp l j).f4 else 0
theorem flow_inv_step (l : List Lp) (hl : l.length ≤ 12) (hb : Beh l) (hf : ∀ i, i < l.length → 0 ≤ (pp l i).f4 ∧ (pp l i).f4 ≤ 3000) {t : Nat} {F : List Int} (ht : t < l.length) (h : FlowInv l (t + 1) F) : FlowInv l t (flowStep l F t) := by
  have hlen := h.len
  have hbt := hb t ht
  have hft := hf t ht
  have hdt := h.bd t ht
  have hB : bnd (l.length - t) = 2 * bnd (l.length - (t + 1)) + 6000 := by rw [show l.length - t = (l.length - (t + 1)) + 1 by omega]; rfl
  have hB2 := bnd_le (l.length - t) (by omega)
  have hB3 := (bnd_mono (l.length - (t + 1))).1
  have hw : wrap64 (gi F t + (pp l t).f4) = gi F t + (pp l t).f4 := w64 (by omega) (by omega)
  by_cases hc : (pp l t).f0 ≥ 0
  · obtain ⟨b, hbe⟩ : ∃ b : Nat, (b : Int) = (pp l t).f0 := ⟨(pp l t).f0.toNat, by omega⟩
    have hbt2 : b < t := by omega
    have hdb := h.bd b (by omega)
    have g1 : ∀ j, gi (F.set t (gi F t + (pp l t).f4)) j = if t = j then gi F t + (pp l t).f4 else gi F j := fun j => gi_set F t j _ (by omega)
    have e : flowStep l F t = (F.set t (gi F t + (pp l t).f4)).set b (gi F b + (gi F t + (pp l t).f4)) := by
      unfold flowStep
      rw [if_pos hc, hw, ← hbe, Int.toNat_natCast, g1 b, g1 t, if_neg (by omega), if_pos rfl, w64 (by omega) (by omega)]
    have g2 : ∀ j, gi (flowStep l F t) j = if b = j then gi F b + (gi F t + (pp l t).f4) else if t = j then gi F t + (pp l t).f4 else gi F j := by
      intro j
      rw [e, gi_set _ b j _ (by simp; omega), g1 j]
    have hge : ∀ j, gi F j ≤ gi (flowStep l F t) j := by
      intro j
      rw [g2 j]
      split
      · next e => subst e; omega
      · split
        · next e => subst e; omega
        · exact Int.le_refl _
    refine ⟨by rw [flowStep_length]; exact hlen, fun j hj => ?_, fun i h1 h2 h3 => ?_, fun j h1 h2 => ?_, fun j hj hn => ?_⟩
    · have := h.bd j hj
      rw [g2 j]
      split
      · omega
      · split <;> omega
    · by_cases e1 : i = t
      · subst e1
        rw [g2 i, ← hbe, Int.toNat_natCast, g2 b, if_neg (by omega), if_pos rfl, if_pos rfl]
        omega
      · rw [g2 i, if_neg (by omega), if_neg (by omega)]
        exact Int.le_trans (h.lo i (by omega) h2 h3) (hge _)
    · by_cases e1 : j = t
      · subst e1
        rw [g2 j, if_neg (by omega), if_pos rfl]
        omega
      · exact Int.le_trans (h.own j (by omega) h2) (hge j)
    · have hnb : b ≠ j := fun e1 => hn t (Nat.le_refl _) ht (by rw [← hbe, e1])
      have hz := h.zero j hj (fun i h1 h2 => hn i (by omega) h2)
      rw [g2 j, if_neg hnb]
      by_cases e1 : t = j
      · subst e1
        rw [if_neg (by omega)] at hz
        rw [if_pos rfl, hz, if_pos (Nat.le_refl _)]
        omega
      · rw [if_neg e1, hz]
        by_cases e2 : t + 1 ≤ j
        · rw [if_pos e2, if_pos (by omega)]
        · rw [if_neg e2, if_neg (by omega)]
  · have e : flowStep l F t = F.set t (gi F t + (pp l t).f4) := by
      unfold flowStep
      rw [if_neg hc, hw]
    have g2 : ∀ j, gi (flowStep l F t) j = if t = j then gi F t + (pp l t).f4 else gi F j := by
      intro j
      rw [e, gi_set F t j _ (by omega)]
    have hge : ∀ j, gi F j ≤ gi (flowStep l F t) j := by
      intro j
      rw [g2 j]
      split
      · next e => subst e; omega
      · exact Int.le_refl _
    refine ⟨by rw [flowStep_length]; exact hlen, fun j hj => ?_, fun i h1 h2 h3 => ?_, fun j h1 h2 => ?_, fun j hj hn => ?_⟩
    · have := h.bd j hj
      rw [g2 j]
      split <;> omega
    · by_cases e1 : i = t
      · subst e1
        omega
      · rw [g2 i, if_neg (by omega)]
        exact Int.le_trans (h.lo i (by omega) h2 h3) (hge _)
    · by_cases e1 : j = t
      · subst e1
        rw [g2 j, if_pos rfl]
        omega
      · exact Int.le_trans (h.own j (by omega) h2) (hge j)
    · have hz := h.zero j hj (fun i h1 h2 => hn i (by omega) h2)
      rw [g2 j]
      by_cases e1 : t = j
      · subst e1
        rw [if_neg (by omega)] at hz
        rw [if_pos rfl, hz, if_pos (Nat.le_refl _)]
        omega
      · rw [if_neg e1, hz]
        by_cases e2 : t + 1 ≤ j
        · rw [if_pos e2, if_pos (by omega)]
        · rw [if_neg e2, if_neg (by omega)]
theorem flow_inv_from (l : List Lp) (hl : l.length ≤ 12) (hb : Beh l) (hf : ∀ i, i < l.length → 0 ≤ (pp l i).f4 ∧ (pp l i).f4 ≤ 3000) : ∀ (t : Nat) (F : List Int), t ≤ l.length → FlowInv l t F → FlowInv l 0 (flowsFrom l t F)
  | 0, F, _, h => h
  | t + 1, F, ht, h => flow_inv_from l hl hb hf t _ (by omega) (flow_inv_step l hl hb hf (by omega) h)
theorem gi_zeros (n j : Nat) : gi (List.replicate n (0 : Int)) j = 0 := by
  simp only [gi, List.getD_eq_getElem?_getD, List.getElem?_replicate]
  split <;> rfl
theorem flows_inv (l : List Lp) (hl : l.length ≤ 12) (hb : Beh l) (hf : ∀ i, i < l.length → 0 ≤ (pp l i).f4 ∧ (pp l i).f4 ≤ 3000) : FlowInv l 0 (flowsOf l) := by
  refine flow_inv_from l hl hb hf l.length _ (Nat.le_refl _) ⟨by simp, fun j hj => ?_, fun i h1 h2 => by omega, fun j h1 h2 => by omega, fun j hj _ => ?_⟩
  · rw [gi_zeros, Nat.sub_self]
    simp [bnd]
  · rw [gi_zeros, if_neg (by omega)]
/-- A part goes on where another one lies behind it. -/
def GoesOn (l : List Lp) (j : Nat) : Prop := ∃ i, i < l.length ∧ (pp l i).f0 = (j : Int)
/-- All parts that have no nozzle go on, if and only if water flows in all parts. -/
theorem goesOn_iff (l : List Lp) (hl : l.length ≤ 12) (hb : Beh l) (hp : ∀ i, i < l.length → partOk (pp l i) = true) : (∀ j, j < l.length → (pp l j).f3 = 0 → GoesOn l j) ↔ ∀ j, j < l.length → 1 ≤ gi (flowsOf l) j := by
  have hpp : ∀ i, i < l.length → (0 ≤ (pp l i).f4 ∧ (pp l i).f4 ≤ 3000) ∧ ((pp l i).f3 = 0 → (pp l i).f4 = 0) ∧ ((pp l i).f3 ≠ 0 → 1 ≤ (pp l i).f4) := by
    intro i hi
    have h := hp i hi
    simp only [partOk, decide_eq_true_eq] at h
    by_cases h0 : (pp l i).f3 = 0
    · have := h.2.2.2.1 h0
      exact ⟨by omega, fun _ => this, fun h' => absurd h0 h'⟩
    · have := (h.2.2.2.2 h0).2.1
      exact ⟨by omega, fun h' => absurd h' h0, fun _ => this.1⟩
  have hi := flows_inv l hl hb (fun i hi => (hpp i hi).1)
  constructor
  · intro h
    have key : ∀ d j, j + d = l.length → j < l.length → 1 ≤ gi (flowsOf l) j := by
      intro d
      induction d using Nat.strongRecOn with
      | ind d ih =>
        intro j hd hj
        by_cases h0 : (pp l j).f3 = 0
        · obtain ⟨i, h1, h2⟩ := h j hj h0
          have h3 := hb i h1
          have h4 := ih (l.length - i) (by omega) i (by omega) h1
          have h5 := hi.lo i (Nat.zero_le _) h1 (by omega)
          rw [h2, Int.toNat_natCast] at h5
          omega
        · have := hi.own j (Nat.zero_le _) hj
          have := (hpp j hj).2.2 h0
          omega
    exact fun j hj => key (l.length - j) j (by omega) hj
  · intro h j hj h0
    refine Classical.byContradiction fun hn => ?_
    have hz := hi.zero j hj (fun i _ h2 h3 => hn ⟨i, h2, h3⟩)
    rw [if_pos (Nat.zero_le _), (hpp j hj).2.1 h0] at hz
    have := h j hj
    omega
end Go.Proofs.Ytenfngleiohbhaa

/- Hose lines: both sides say the same of a line. Conditions: none. -/
namespace Go.Proofs.Ytenfngleiohbhaa
open Go.RowKit Go.Proofs.YtenfngleiohbhaaW.PrintWords
set_option linter.unusedSimpArgs false
set_option linter.unusedVariables false
def flowOk (l : List Lp) (j : Nat) : Bool := decide (1 ≤ gi (flowsOf l) j ∧ gi (flowsOf l) j ≤ 3000)
def restB (l : List Lp) : Bool := allFrom (flowOk l) l.length 0 && decide (waterOf l ≤ 3000)
/-- A hose line. -/
def lineB (l : List Lp) : Bool := decide (1 ≤ l.length ∧ l.length ≤ 12) && (allFrom (partB l) l.length 0 && restB l)
theorem partB_beh {l : List Lp} (h : ∀ j, j < l.length → partB l j = true) : Beh l := by
  intro i hi
  have := h i hi
  simp only [partB, behOk, Bool.and_eq_true, decide_eq_true_eq] at this
  exact ⟨this.2.1, this.2.2.1⟩
theorem liGood_l1 (l : List Lp) (hl : l.length ≤ 12) (hb : Beh l) : ∀ (d i : Nat), i + d = l.length → Ev (fun k => P.spec_liGood.l1 k l (flowsOf l) ((flowsOf l).length : Int) (i : Int)) (allFrom (flowOk l) d i && decide (waterOf l ≤ 3000)) := by
  have hF := flowsOf_length l
  intro d
  induction d with
  | zero =>
    intro i h
    refine ev_end 21 (fun k hk => ?_)
    have hw := (water_eq l hl hb k (by omega)).2
    simp only [P.spec_liGood.l1, allFrom, Bool.true_and, hw, Option.bind_some]
    rw [if_neg (by omega)]
  | succ d ih =>
    intro i h
    have c1 : (i : Int) < ((flowsOf l).length : Int) := by omega
    have c2 : (0 : Int) ≤ (i : Int) := by omega
    by_cases hp : flowOk l i = true
    · rw [show allFrom (flowOk l) (d + 1) i = allFrom (flowOk l) d (i + 1) by simp [allFrom, hp]]
      refine ev_step 0 (fun k hk => ?_) (ih (i + 1) (by omega))
      simp only [P.spec_liGood.l1, if_pos c1, if_pos c2, l1In_eq, Option.bind_some, rd_gi]
      rw [w64_succ (by omega)]
      exact if_pos hp
    · rw [show allFrom (flowOk l) (d + 1) i = false by simp [allFrom, hp], Bool.false_and]
      refine ev_end 0 (fun k hk => ?_)
      simp only [P.spec_liGood.l1, if_pos c1, if_pos c2, l1In_eq, Option.bind_some, rd_gi]
      exact if_neg hp
theorem liGood_l0 (l : List Lp) (hl : l.length ≤ 12) : ∀ (d i : Nat), i + d = l.length → (∀ j, j < i → partB l j = true) → Ev (fun k => P.spec_liGood.l0 k l (l.length : Int) (i : Int)) (allFrom (partB l) d i && restB l) := by
  intro d
  induction d with
  | zero =>
    intro i h hi
    have hb : Beh l := partB_beh (fun j hj => hi j (by omega))
    refine ev_step 21 (fun k hk => ?_) (liGood_l1 l hl hb l.length 0 (by omega))
    simp only [P.spec_liGood.l0, (flowsIn_eq l hl hb k (by omega)).2, Option.bind_some]
    rw [if_neg (by omega)]
    rfl
  | succ d ih =>
    intro i h hi
    obtain ⟨K, hK⟩ := liPart_ev l hl i (by omega)
    have c1 : (i : Int) < (l.length : Int) := by omega
    by_cases hp : partB l i = true
    · rw [show allFrom (partB l) (d + 1) i = allFrom (partB l) d (i + 1) by simp [allFrom, hp]]
      refine ev_step K (fun k hk => ?_) (ih (i + 1) (by omega) (fun j hj => ?_))
      · simp only [P.spec_liGood.l0, if_pos c1, hK k hk, Option.bind_some]
        rw [w64_succ (by omega)]
        exact if_pos hp
      · by_cases e : j = i
        · rw [e]; exact hp
        · exact hi j (by omega)
    · rw [show allFrom (partB l) (d + 1) i = false by simp [allFrom, hp], Bool.false_and]
      refine ev_end K (fun k hk => ?_)
      simp only [P.spec_liGood.l0, if_pos c1, hK k hk, Option.bind_some]
      exact if_neg hp
theorem liGood_ev (l : List Lp) (hl : l.length ≤ 1048576) : Ev (fun k => P.spec_liGood.f k l) (lineB l) := by
  by_cases h : 1 ≤ (l.length : Int) ∧ (l.length : Int) ≤ 12
  · have hd : decide (1 ≤ l.length ∧ l.length ≤ 12) = true := decide_eq_true (by omega)
    rw [lineB, hd, Bool.true_and]
    refine ev_congr 0 (fun k hk => ?_) (liGood_l0 l (by omega) l.length 0 (by omega) (fun j hj => by omega))
    simp only [P.spec_liGood.f, l1In_eq, Option.bind_some]
    rw [if_pos (decide_eq_true h)]
    rfl
  · have hd : decide (1 ≤ l.length ∧ l.length ≤ 12) = false := decide_eq_false (by omega)
    rw [lineB, hd, Bool.false_and]
    refine ev_now 0 (fun k hk => ?_)
    simp only [P.spec_liGood.f, l1In_eq, Option.bind_some]
    rw [if_neg (by simpa using h)]
/-! ### The program's side -/
theorem max_l0 (F : List Int) (hF : F.length ≤ 1048576) : ∀ (d i : Nat) (m : Int), i + d = F.length → ∃ r, (∀ k, d < k → P.slices_Max_int_int.l0 k F m (i : Int) = some r) ∧ ∀ c, r ≤ c ↔ m ≤ c ∧ ∀ j, i ≤ j → j < F.length → gi F j ≤ c := by
  intro d
  induction d with
  | zero =>
    intro i m h
    refine ⟨m, fun k hk => ?_, fun c => ⟨fun h' => ⟨h', fun j j1 j2 => by omega⟩, fun h' => h'.1⟩⟩
    obtain ⟨k, rfl⟩ : ∃ m, k = m + 1 := ⟨k - 1, by omega⟩
    simp only [P.slices_Max_int_int.l0]
    rw [if_neg (by omega)]
  | succ d ih =>
    intro i m h
    obtain ⟨r, h1, h2⟩ := ih (i + 1) (mx m (gi F i)) (by omega)
    refine ⟨r, fun k hk => ?_, fun c => ?_⟩
    · obtain ⟨k, rfl⟩ : ∃ m, k = m + 1 := ⟨k - 1, by omega⟩
      simp only [P.slices_Max_int_int.l0]
      rw [if_pos (by omega), if_pos (by omega), w64_succ (by omega), rd_gi]
      exact h1 k (by omega)
    · rw [h2 c]
      have hm : mx m (gi F i) ≤ c ↔ m ≤ c ∧ gi F i ≤ c := by unfold mx; omega
      rw [hm]
      constructor
      · intro ⟨⟨a, b⟩, e⟩
        refine ⟨a, fun j j1 j2 => ?_⟩
        by_cases ej : j = i
        · rw [ej]; exact b
        · exact e j (by omega) j2
      · intro ⟨a, e⟩
        exact ⟨⟨a, e i (Nat.le_refl _) (by omega)⟩, fun j j1 j2 => e j (by omega) j2⟩
theorem max_eq (F : List Int) (hF : F.length ≤ 1048576) (h0 : 0 < F.length) : ∃ r, (∀ k, F.length < k → P.slices_Max_int_int.f k F = some r) ∧ ∀ c, r ≤ c ↔ ∀ j, j < F.length → gi F j ≤ c := by
  obtain ⟨r, h1, h2⟩ := max_l0 F hF (F.length - 1) 1 (gi F 0) (by omega)
  refine ⟨r, fun k hk => ?_, fun c => ?_⟩
  · simp only [P.slices_Max_int_int.f]
    rw [if_neg (by omega), if_pos (by omega), show rd F 0 = gi F 0 from rd_gi F 0]
    exact h1 k (by omega)
  · rw [h2 c]
    constructor
    · intro ⟨a, b⟩ j hj
      by_cases e : j = 0
      · rw [e]; exact a
      · exact b j (by omega) hj
    · intro h
      exact ⟨h 0 h0, fun j _ hj => h j hj⟩
/-- What the marks say behind i parts. -/
def GInv (l : List Lp) (i : Nat) (G : List Bool) : Prop := G.length = l.length ∧ ∀ j, j < l.length → (G.getD j false = true ↔ ∃ q, q < i ∧ (pp l q).f0 = (j : Int))
theorem ginv_step {l : List Lp} {i : Nat} {G : List Bool} (h : GInv l i G) (hb : -1 ≤ (pp l i).f0 ∧ (pp l i).f0 ≤ (i : Int) - 1) (hi : i < l.length) : GInv l (i + 1) (if (pp l i).f0 ≥ 0 then G.set (pp l i).f0.toNat true else G) := by
  obtain ⟨h1, h2⟩ := h
  by_cases hc : (pp l i).f0 ≥ 0
  · rw [if_pos hc]
    refine ⟨by simpa using h1, fun j hj => ?_⟩
    rw [getD_set' _ _ _ _ _ (by omega)]
    by_cases e : (pp l i).f0.toNat = j
    · rw [if_pos e]
      exact ⟨fun _ => ⟨i, by omega, by omega⟩, fun _ => rfl⟩
    · rw [if_neg e, h2 j hj]
      constructor
      · intro ⟨q, q1, q2⟩
        exact ⟨q, by omega, q2⟩
      · intro ⟨q, q1, q2⟩
        refine ⟨q, ?_, q2⟩
        by_cases eq : q = i
        · subst eq; omega
        · omega
  · rw [if_neg hc]
    refine ⟨h1, fun j hj => ?_⟩
    rw [h2 j hj]
    constructor
    · intro ⟨q, q1, q2⟩
      exact ⟨q, by omega, q2⟩
    · intro ⟨q, q1, q2⟩
      refine ⟨q, ?_, q2⟩
      by_cases eq : q = i
      · subst eq; omega
      · omega
def markOk (l : List Lp) (G : List Bool) (j : Nat) : Bool := decide ((pp l j).f3 = 0 → G.getD j false = true)
theorem isHoseLine_l1 (l : List Lp) (hl : l.length ≤ 12) (h0 : 0 < l.length) (hb : Beh l) (G : List Bool) (hG : G.length = l.length) : ∀ (d i : Nat), i + d = l.length → Ev (fun k => P.impl_isHoseLine.l1 k l G l (l.length : Int) (i : Int)) (allFrom (markOk l G) d i && decide ((∀ j, j < l.length → gi (flowsOf l) j ≤ 3000) ∧ waterOf l ≤ 3000)) := by
  have hF := flowsOf_length l
  intro d
  induction d with
  | zero =>
    intro i h
    obtain ⟨r, h1, h2⟩ := max_eq (flowsOf l) (by omega) (by omega)
    rw [hF] at h1
    refine ev_end 21 (fun k hk => ?_)
    simp only [P.impl_isHoseLine.l1, allFrom, Bool.true_and, (water_eq l hl hb k (by omega)).1, (flowsIn_eq l hl hb k (by omega)).1, h1 k (by omega), Option.bind_some]
    rw [if_neg (by omega)]
    have h3 := h2 3000
    rw [hF] at h3
    by_cases hc : r ≤ 3000
    · rw [if_pos hc]
      exact some_dec ⟨fun h' => ⟨h3.1 hc, h'⟩, fun h' => h'.2⟩
    · rw [if_neg hc]
      exact some_f (fun h' => hc (h3.2 h'.1))
  | succ d ih =>
    intro i h
    have c1 : (i : Int) < (l.length : Int) := by omega
    have c2 : (0 : Int) ≤ (i : Int) := by omega
    have c3 : (i : Int) < (G.length : Int) := by omega
    have hr : rdOf false G (i : Int) = G.getD i false := by simp [rdOf]
    by_cases hp : markOk l G i = true
    · rw [show allFrom (markOk l G) (d + 1) i = allFrom (markOk l G) d (i + 1) by simp [allFrom, hp]]
      refine ev_step 0 (fun k hk => ?_) (ih (i + 1) (by omega))
      simp only [P.impl_isHoseLine.l1, if_pos c1, if_pos c2, if_pos c3, rd_pp, hr]
      rw [w64_succ (by omega)]
      simp only [markOk, decide_eq_true_eq] at hp
      by_cases hn : (pp l i).f3 = 0
      · rw [if_pos hn, if_pos (hp hn)]
      · rw [if_neg hn]
    · rw [show allFrom (markOk l G) (d + 1) i = false by simp [allFrom, hp], Bool.false_and]
      refine ev_end 0 (fun k hk => ?_)
      simp only [P.impl_isHoseLine.l1, if_pos c1, if_pos c2, if_pos c3, rd_pp, hr]
      simp only [markOk, decide_eq_true_eq, Classical.not_imp] at hp
      rw [if_pos hp.1, if_neg hp.2]
theorem marks_rest (l : List Lp) (hl : l.length ≤ 12) (hp : ∀ j, j < l.length → partB l j = true) (G : List Bool) (hG : GInv l l.length G) : (allFrom (markOk l G) l.length 0 && decide ((∀ j, j < l.length → gi (flowsOf l) j ≤ 3000) ∧ waterOf l ≤ 3000)) = restB l := by
  have hb : Beh l := partB_beh hp
  have hgo := goesOn_iff l hl hb (fun i hi => by have := hp i hi; simp only [partB, Bool.and_eq_true] at this; exact this.1)
  rw [Bool.eq_iff_iff]
  simp only [restB, Bool.and_eq_true, allFrom_iff, decide_eq_true_eq, markOk, flowOk]
  constructor
  · intro ⟨h1, h2, h3⟩
    have := hgo.1 (fun j hj hn => (hG.2 j hj).1 (h1 j (Nat.zero_le _) (by omega) hn))
    exact ⟨fun j _ hj => ⟨this j (by omega), h2 j (by omega)⟩, h3⟩
  · intro ⟨h1, h2⟩
    have := hgo.2 (fun j hj => (h1 j (Nat.zero_le _) (by omega)).1)
    exact ⟨fun j _ hj hn => (hG.2 j (by omega)).2 (this j (by omega) hn), fun j hj => (h1 j (Nat.zero_le _) (by omega)).2, h2⟩
theorem isHoseLine_l0 (l : List Lp) (hl : l.length ≤ 12) (h0 : 0 < l.length) : ∀ (d i : Nat) (G : List Bool), i + d = l.length → (∀ j, j < i → partB l j = true) → GInv l i G → Ev (fun k => P.impl_isHoseLine.l0 k l G l (l.length : Int) (i : Int)) (allFrom (partB l) d i && restB l) := by
  intro d
  induction d with
  | zero =>
    intro i G h hi hG
    have hp : ∀ j, j < l.length → partB l j = true := fun j hj => hi j (by omega)
    obtain rfl : i = l.length := by omega
    have e := isHoseLine_l1 l hl h0 (partB_beh hp) G hG.1 l.length 0 (by omega)
    rw [marks_rest l hl hp G hG] at e
    refine ev_step 0 (fun k hk => ?_) e
    simp only [P.impl_isHoseLine.l0]
    rw [if_neg (by omega)]
    rfl
  | succ d ih =>
    intro i G h hi hG
    have c1 : (i : Int) < (l.length : Int) := by omega
    have c2 : (0 : Int) ≤ (i : Int) := by omega
    have hw : wrap64 ((i : Int) - 1) = (i : Int) - 1 := w64 (by omega) (by omega)
    obtain ⟨K, hK⟩ := isLinePart_ev (pp l i)
    have ht : Ev (fun k => P.impl_isHoseLine.j1 k l G l (l.length : Int) (i : Int) true (pp l i).f0 (pp l i).f1.f0 (pp l i).f1.f1 (pp l i).f2 (pp l i).f3 (pp l i).f4) false := ev_end 0 (fun k _ => by simp only [P.impl_isHoseLine.j1, if_true])
    by_cases hp : partB l i = true
    · rw [show allFrom (partB l) (d + 1) i = allFrom (partB l) d (i + 1) by simp [allFrom, hp]]
      have hpp := hp
      simp only [partB, behOk, Bool.and_eq_true, decide_eq_true_eq] at hpp
      obtain ⟨p1, p2, p3, p4⟩ := hpp
      have e := ih (i + 1) _ (by omega) (fun j hj => ?_) (ginv_step hG ⟨p2, p3⟩ (by omega))
      · have e2 : Ev (fun k => P.impl_isHoseLine.j1 k l G l (l.length : Int) (i : Int) false (pp l i).f0 (pp l i).f1.f0 (pp l i).f1.f1 (pp l i).f2 (pp l i).f3 (pp l i).f4) (allFrom (partB l) d (i + 1) && restB l) := by
          refine ev_step 0 (fun k hk => ?_) e
          simp only [P.impl_isHoseLine.j1, Bool.false_eq_true, if_false]
          rw [w64_succ (by omega)]
          by_cases hc : (pp l i).f0 ≥ 0
          · have hc' : (0 : Int) ≤ (pp l i).f0 := hc
            have hlt : (pp l i).f0 < (G.length : Int) := by have := hG.1; omega
            simp only [ge_iff_le, if_pos hc', if_pos hlt]
          · rw [if_neg hc, if_neg hc]
        refine ev_step K (fun k hk => ?_) e2
        simp only [P.impl_isHoseLine.l0, if_pos c1, if_pos c2, rd_pp, hK k hk, Option.bind_some, inside_eq, hw, decide_eq_true (show -1 ≤ (pp l i).f0 ∧ (pp l i).f0 ≤ (i : Int) - 1 from ⟨p2, p3⟩), if_true]
        rw [if_pos p1]
        by_cases hc : (pp l i).f0 ≥ 0
        · have hc' : (0 : Int) ≤ (pp l i).f0 := hc
          have hlt : (pp l i).f0 < (l.length : Int) := by omega
          have hz : decide ((pp l (pp l i).f0.toNat).f3 > 0) = false := decide_eq_false (by have := p4 hc'; omega)
          simp only [ge_iff_le, if_pos hc', if_pos hlt, rd_pp' _ _ hc', hz]
        · rw [if_neg hc]
      · by_cases e : j = i
        · rw [e]; exact hp
        · exact hi j (by omega)
    · rw [show allFrom (partB l) (d + 1) i = false by simp [allFrom, hp], Bool.false_and]
      refine ev_step K (fun k hk => ?_) ht
      simp only [P.impl_isHoseLine.l0, if_pos c1, if_pos c2, rd_pp, hK k hk, Option.bind_some, inside_eq, hw]
      by_cases p1 : partOk (pp l i) = true
      · rw [if_pos p1]
        by_cases p2 : -1 ≤ (pp l i).f0 ∧ (pp l i).f0 ≤ (i : Int) - 1
        · rw [if_pos (decide_eq_true p2)]
          have p3 : (0 : Int) ≤ (pp l i).f0 ∧ (pp l (pp l i).f0.toNat).f3 > 0 := by
            refine Classical.byContradiction fun hn => hp ?_
            simp only [partB, behOk, p1, Bool.true_and]
            exact decide_eq_true ⟨p2.1, p2.2, fun h => Int.not_lt.1 (fun h' => hn ⟨h, h'⟩)⟩
          have hlt : (pp l i).f0 < (l.length : Int) := by omega
          simp only [ge_iff_le, if_pos p3.1, if_pos hlt, rd_pp' _ _ p3.1, decide_eq_true p3.2]
        · rw [if_neg (by simpa using p2)]
      · rw [if_neg p1]
theorem isHoseLine_ev (l : List Lp) (hl : l.length ≤ 1048576) : Ev (fun k => P.impl_isHoseLine.f k l) (lineB l) := by
  by_cases h : 1 ≤ (l.length : Int) ∧ (l.length : Int) ≤ 12
  · have hd : decide (1 ≤ l.length ∧ l.length ≤ 12) = true := decide_eq_true (by omega)
    rw [lineB, hd, Bool.true_and]
    refine ev_congr 0 (fun k hk => ?_) (isHoseLine_l0 l (by omega) (by omega) l.length 0 (List.replicate l.length false) (by omega) (fun j hj => by omega) ⟨by simp, fun j hj => ?_⟩)
    · simp only [P.impl_isHoseLine.f, inside_eq, Option.bind_some]
      rw [if_pos (decide_eq_true h), if_pos (by omega), if_pos (by omega), Int.toNat_natCast]
      rfl
    · simp only [List.getD_eq_getElem?_getD, List.getElem?_replicate, if_pos hj]
      simp
  · have hd : decide (1 ≤ l.length ∧ l.length ≤ 12) = false := decide_eq_false (by omega)
    rw [lineB, hd, Bool.false_and]
    refine ev_now 0 (fun k hk => ?_)
    simp only [P.impl_isHoseLine.f, inside_eq, Option.bind_some]
    rw [if_neg (by simpa using h)]
/-- Both sides' tests of a line. -/
theorem line_both (l : List Lp) (hl : l.length ≤ 1048576) : ∃ K, ∀ k, K ≤ k → P.impl_isHoseLine.f k l = some (lineB l) ∧ P.spec_liGood.f k l = some (lineB l) := ev_both (isHoseLine_ev l hl) (liGood_ev l hl)
/-- What a line is. -/
theorem lineB_spec {l : List Lp} (h : lineB l = true) : 1 ≤ l.length ∧ l.length ≤ 12 ∧ Beh l ∧ (∀ j, j < l.length → partOk (pp l j) = true) ∧ (∀ j, j < l.length → 1 ≤ gi (flowsOf l) j ∧ gi (flowsOf l) j ≤ 3000) ∧ waterOf l ≤ 3000 := by
  simp only [lineB, restB, Bool.and_eq_true, decide_eq_true_eq, allFrom_iff, flowOk] at h
  obtain ⟨⟨h1, h2⟩, h3, h4, h5⟩ := h
  have hp : ∀ j, j < l.length → partB l j = true := fun j hj => h3 j (Nat.zero_le _) (by omega)
  exact ⟨h1, h2, partB_beh hp, fun j hj => by have := hp j hj; simp only [partB, Bool.and_eq_true] at this; exact this.1, fun j hj => h4 j (Nat.zero_le _) (by omega), h5⟩
end Go.Proofs.Ytenfngleiohbhaa

/- The loss of a hose: both sides. Conditions: none. -/
namespace Go.Proofs.Ytenfngleiohbhaa
open Go.RowKit Go.Proofs.YtenfngleiohbhaaW.PrintWords
set_option linter.unusedSimpArgs false
set_option linter.unusedVariables false
theorem lossOf_wraps {k len flow : Int} (h0 : 0 ≤ flow) (h1 : flow ≤ 3000) (h2 : 0 ≤ len) (h3 : len ≤ 5000) :
    wrap64 (wrap64 (wrap64 (facOf k * flow) * flow) * len) = facOf k * (flow * flow * len) ∧ 0 ≤ facOf k * (flow * flow * len) ∧ facOf k * (flow * flow * len) ≤ 225000000000000 := by
  have a := mul_bd h0 h1 h0 h1
  have b := mul_bd a.1 a.2 h2 h3
  have f := facOf_bd k
  have c := mul_bd (by omega : 0 ≤ facOf k) f.2 b.1 b.2
  have d := mul_bd (by omega : 0 ≤ facOf k) f.2 h0 h1
  have e := mul_bd (by omega : 0 ≤ facOf k) f.2 a.1 a.2
  rw [w64 (x := facOf k * flow) (by omega) (by omega), Int.mul_assoc (facOf k) flow flow, w64 (x := facOf k * (flow * flow)) (by omega) (by omega), Int.mul_assoc (facOf k), w64 (by omega) (by omega)]
  exact ⟨rfl, by omega, by omega⟩
theorem hoseLoss_eq {k len flow : Int} (hk : 0 ≤ k ∧ k ≤ 3) (h0 : 0 ≤ flow) (h1 : flow ≤ 3000) (h2 : 0 ≤ len) (h3 : len ≤ 5000) : P.impl_hoseLoss.f k len flow = some (lossOf k len flow) := by
  have h := lossOf_wraps (k := k) h0 h1 h2 h3
  simp only [P.impl_hoseLoss.f, P.impl_upTo.f]
  rw [if_pos hk.1, if_pos (by omega), show P.impl_hoseLoss.fac k = facOf k from rfl, h.1, if_neg (by omega)]
  obtain ⟨_, h4, h5⟩ := h
  generalize hg : facOf k * (flow * flow * len) = X at h4 h5 ⊢
  rw [w64 (x := X + 100000000) (by omega) (by omega), w64 (x := X + 100000000 - 1) (by omega) (by omega), Int.tdiv_eq_ediv_of_nonneg (by omega), w64 (by omega) (by omega)]
  unfold lossOf
  rw [hg]
  congr 1
  omega
theorem hoLoss_eq {k len flow : Int} (hk : 0 ≤ k ∧ k ≤ 3) (h0 : 0 ≤ flow) (h1 : flow ≤ 3000) (h2 : 0 ≤ len) (h3 : len ≤ 5000) : P.spec_hoLoss.f k len flow = some (lossOf k len flow) := by
  have h := lossOf_wraps (k := k) h0 h1 h2 h3
  have hr : rd [3, 20, 160, 5000] k = facOf k := by
    have : k = 0 ∨ k = 1 ∨ k = 2 ∨ k = 3 := by omega
    rcases this with rfl | rfl | rfl | rfl <;> rfl
  simp only [P.spec_hoLoss.f, P.spec_hoFactors.f, Option.bind_some, List.length_cons, List.length_nil]
  rw [if_pos hk.1, if_pos (by omega), hr, h.1]
  obtain ⟨_, h4, h5⟩ := h
  generalize hg : facOf k * (flow * flow * len) = X at h4 h5 ⊢
  rw [w64 (x := X + 99999999) (by omega) (by omega), Int.tdiv_eq_ediv_of_nonneg (by omega), w64 (by omega) (by omega)]
  unfold lossOf
  rw [hg]
end Go.Proofs.Ytenfngleiohbhaa

/- Losses to the parts of a hose line, and what the branches need at the pump. Conditions: none. -/
namespace Go.Proofs.Ytenfngleiohbhaa
open Go.RowKit Go.Proofs.YtenfngleiohbhaaW.PrintWords
set_option linter.unusedSimpArgs false
set_option linter.unusedVariables false
/-- A list, built from its front. -/
def buildFrom (f : List Int → Nat → Int) : Nat → List Int → List Int
  | 0, O => O
  | d + 1, O => buildFrom f d (O ++ [f O O.length])
theorem build_length (f : List Int → Nat → Int) : ∀ (d : Nat) (O : List Int), (buildFrom f d O).length = O.length + d
  | 0, O => rfl
  | d + 1, O => by
    simp only [buildFrom]
    rw [build_length f d, List.length_append, List.length_singleton]
    omega
theorem gi_app (O : List Int) (v : Int) (R : List Int) (j : Nat) (h : j < O.length) : gi (O ++ v :: R) j = gi O j := by
  simp [gi, List.getD_eq_getElem?_getD, List.getElem?_append_left h]
theorem gi_mid (O : List Int) (v : Int) (R : List Int) : gi (O ++ v :: R) O.length = v := getD_mid O v R 0
theorem build_old (f : List Int → Nat → Int) : ∀ (d : Nat) (O : List Int) (j : Nat), j < O.length → gi (buildFrom f d O) j = gi O j
  | 0, O, j, h => rfl
  | d + 1, O, j, h => by
    simp only [buildFrom]
    rw [build_old f d _ j (by simp; omega), gi_app _ _ _ _ h]
/-- Where what is built looks only at what lies before it. -/
theorem build_new (f : List Int → Nat → Int) (hf : ∀ A B : List Int, ∀ i, (∀ j, j < i → gi A j = gi B j) → f A i = f B i) : ∀ (d : Nat) (O : List Int) (j : Nat), O.length ≤ j → j < O.length + d → gi (buildFrom f d O) j = f (buildFrom f d O) j
  | 0, O, j, h1, h2 => by omega
  | d + 1, O, j, h1, h2 => by
    simp only [buildFrom]
    by_cases e : j = O.length
    · subst e
      rw [build_old f d _ _ (by simp), gi_mid O _ []]
      refine hf _ _ _ (fun q hq => ?_)
      rw [build_old f d _ q (by simp; omega), gi_app _ _ _ _ hq]
    · exact build_new f hf d _ j (by simp; omega) (by simp; omega)
def lossVal (l : List Lp) (O : List Int) (i : Nat) : Int :=
  if (pp l i).f0 ≥ 0 then wrap64 (wrap64 (lossOf (pp l i).f1.f0 (pp l i).f1.f1 (gi (flowsOf l) i) + (pp l i).f2) + gi O (pp l i).f0.toNat)
  else wrap64 (lossOf (pp l i).f1.f0 (pp l i).f1.f1 (gi (flowsOf l) i) + (pp l i).f2)
def lossesOf (l : List Lp) : List Int := buildFrom (lossVal l) l.length []
theorem lossesOf_length (l : List Lp) : (lossesOf l).length = l.length := by simp [lossesOf, build_length]
section
variable {l : List Lp} (h : lineB l = true)
include h
theorem loss_args {i : Nat} (hi : i < l.length) : (0 ≤ (pp l i).f1.f0 ∧ (pp l i).f1.f0 ≤ 3) ∧ 0 ≤ gi (flowsOf l) i ∧ gi (flowsOf l) i ≤ 3000 ∧ 0 ≤ (pp l i).f1.f1 ∧ (pp l i).f1.f1 ≤ 5000 ∧ -500 ≤ (pp l i).f2 ∧ (pp l i).f2 ≤ 500 := by
  obtain ⟨h1, h2, h3, h4, h5, h6⟩ := lineB_spec h
  have a := h4 i hi
  have b := h5 i hi
  simp only [partOk, decide_eq_true_eq] at a
  omega
theorem losses_l0 : ∀ (d : Nat) (O : List Int) (k : Nat), O.length + d = l.length → d < k →
    P.impl_lossesTo.l0 k (flowsOf l) (O ++ List.replicate d 0) l (l.length : Int) (O.length : Int) = some (buildFrom (lossVal l) d O) ∧ P.spec_liLosses.l0 k (flowsOf l) O l (l.length : Int) (O.length : Int) = some (buildFrom (lossVal l) d O) := by
  obtain ⟨h1, h2, h3, h4, h5, h6⟩ := lineB_spec h
  have hF := flowsOf_length l
  intro d
  induction d with
  | zero =>
    intro O k hd hk
    obtain ⟨k, rfl⟩ : ∃ m, k = m + 1 := ⟨k - 1, by omega⟩
    simp only [P.impl_lossesTo.l0, P.spec_liLosses.l0]
    rw [if_neg (by omega), if_neg (by omega)]
    simp [buildFrom]
  | succ d ih =>
    intro O k hd hk
    obtain ⟨k, rfl⟩ : ∃ m, k = m + 1 := ⟨k - 1, by omega⟩
    have hi : O.length < l.length := by omega
    obtain ⟨a1, a2, a3, a4, a5, a6, a7⟩ := loss_args h hi
    have hb := h3 O.length hi
    have hr := ih (O ++ [lossVal l O O.length]) k (by simp; omega) (by omega)
    rw [List.length_append, List.length_singleton, List.append_assoc, List.singleton_append] at hr
    have c1 : (O.length : Int) < (l.length : Int) := by omega
    have c2 : (0 : Int) ≤ (O.length : Int) := by omega
    have c3 : (O.length : Int) < ((flowsOf l).length : Int) := by omega
    have c4 : ∀ R : List Int, (O.length : Int) < ((O ++ (0 : Int) :: R).length : Int) := by intro R; simp; omega
    have c5 : O.length < 17592186044416 := by omega
    have g1 : ∀ (v : Int) (R : List Int), gi (O ++ v :: R) O.length = v := fun v R => gi_mid O v R
    simp only [P.impl_lossesTo.l0, P.spec_liLosses.l0, if_pos c1, if_pos c2, if_pos c3, rd_pp, rd_gi, rd_gi', hoseLoss_eq a1 a2 a3 a4 a5, hoLoss_eq a1 a2 a3 a4 a5, Option.bind_some, List.replicate_succ, Int.toNat_natCast, if_pos (c4 _), set_mid, g1, if_pos c5, buildFrom]
    rw [w64_succ (by omega)]
    by_cases hc : (pp l O.length).f0 ≥ 0
    · have hc' : (0 : Int) ≤ (pp l O.length).f0 := hc
      have hlt : (pp l O.length).f0 < (O.length : Int) := by omega
      have hlt2 : ∀ (R : List Int), (pp l O.length).f0 < ((O ++ (0 : Int) :: R).length : Int) := by intro R; simp; omega
      have e : lossVal l O O.length = wrap64 (wrap64 (lossOf (pp l O.length).f1.f0 (pp l O.length).f1.f1 (gi (flowsOf l) O.length) + (pp l O.length).f2) + gi O (pp l O.length).f0.toNat) := by unfold lossVal; rw [if_pos hc]
      rw [e] at hr ⊢
      have g2 : ∀ (v : Int) (R : List Int), gi (O ++ v :: R) (pp l O.length).f0.toNat = gi O (pp l O.length).f0.toNat := fun v R => gi_app O v R _ (by omega)
      simp only [ge_iff_le, if_pos hc', if_pos hlt, if_pos (hlt2 _), g2]
      exact hr
    · have e : lossVal l O O.length = wrap64 (lossOf (pp l O.length).f1.f0 (pp l O.length).f1.f1 (gi (flowsOf l) O.length) + (pp l O.length).f2) := by unfold lossVal; rw [if_neg hc]
      rw [e] at hr ⊢
      rw [if_neg hc, if_neg hc]
      exact hr
theorem losses_eq (k : Nat) (hk : 20 < k) : P.impl_lossesTo.f k l = some (lossesOf l) ∧ P.spec_liLosses.f k l = some (lossesOf l) := by
  obtain ⟨h1, h2, h3, h4, h5, h6⟩ := lineB_spec h
  have hf := flowsIn_eq l h2 h3 k hk
  have hr := losses_l0 h l.length [] k (by simp) (by omega)
  simp only [P.impl_lossesTo.f, P.spec_liLosses.f, hf.1, hf.2, Option.bind_some]
  rw [if_pos (by omega), if_pos (by omega), Int.toNat_natCast]
  exact hr
end
/-- What the branch number i needs at the pump. -/
def needAt (l : List Lp) (i : Nat) : Int := wrap64 (gi (lossesOf l) i + pressOf (pp l i).f3 (pp l i).f4)
def needVal (l : List Lp) (_ : List Int) (i : Nat) : Int := if (pp l i).f3 > 0 then needAt l i else 0
def needsOf (l : List Lp) : List Int := buildFrom (needVal l) l.length []
theorem needsOf_length (l : List Lp) : (needsOf l).length = l.length := by simp [needsOf, build_length]
theorem gi_needs (l : List Lp) (j : Nat) (hj : j < l.length) : gi (needsOf l) j = if (pp l j).f3 > 0 then needAt l j else 0 :=
  build_new (needVal l) (fun _ _ _ _ => rfl) l.length [] j (Nat.zero_le _) (by simpa using hj)
section
variable {l : List Lp} (h : lineB l = true)
include h
theorem nozzle_args {i : Nat} (hi : i < l.length) (hn : (pp l i).f3 > 0) : (4 ≤ (pp l i).f3 ∧ (pp l i).f3 ≤ 40) ∧ (0 ≤ (pp l i).f4 ∧ (pp l i).f4 ≤ 3000) ∧ pressOf (pp l i).f3 (pp l i).f4 ≤ 2000 := by
  obtain ⟨h1, h2, h3, h4, h5, h6⟩ := lineB_spec h
  have a := h4 i hi
  simp only [partOk, decide_eq_true_eq] at a
  have := a.2.2.2.2 (by omega)
  omega
theorem branch_press {i : Nat} (hi : i < l.length) (hn : (pp l i).f3 > 0) : Ev (fun k => P.impl_branchPressure.f k (pp l i).f3 (pp l i).f4) (pressOf (pp l i).f3 (pp l i).f4, true) ∧ Ev (fun k => P.spec_hoNeeds.f k (pp l i).f3 (pp l i).f4) (pressOf (pp l i).f3 (pp l i).f4, true) := by
  obtain ⟨a, b, c⟩ := nozzle_args h hi hn
  obtain ⟨e1, e2⟩ := press_ev a b
  rw [if_pos c] at e1
  rw [decide_eq_true c] at e2
  exact ⟨e1, e2⟩
theorem liNeeds_ev {i : Nat} (hi : i < l.length) (hn : (pp l i).f3 > 0) : Ev (fun k => P.spec_liNeeds.f k l (lossesOf l) (i : Int)) (needAt l i) := by
  obtain ⟨K, hK⟩ := (branch_press h hi hn).2
  have hL := lossesOf_length l
  have c1 : (i : Int) < (l.length : Int) := by omega
  have c2 : (0 : Int) ≤ (i : Int) := by omega
  have c3 : (i : Int) < ((lossesOf l).length : Int) := by omega
  refine ev_now K (fun k hk => ?_)
  simp only [P.spec_liNeeds.f, if_pos c1, if_pos c2, rd_pp, rd_gi, hK k hk, Option.bind_some, if_pos c3]
  rfl
theorem needs_l0 : ∀ (d : Nat) (O : List Int), O.length + d = l.length → Ev (fun k => P.impl_needsOf.l0 k (lossesOf l) (O ++ List.replicate d 0) l (l.length : Int) (O.length : Int)) (buildFrom (needVal l) d O) := by
  obtain ⟨h1, h2, h3, h4, h5, h6⟩ := lineB_spec h
  have hL := lossesOf_length l
  intro d
  induction d with
  | zero =>
    intro O hd
    refine ev_end 0 (fun k _ => ?_)
    simp only [P.impl_needsOf.l0]
    rw [if_neg (by omega)]
    simp [buildFrom]
  | succ d ih =>
    intro O hd
    have hi : O.length < l.length := by omega
    have hr := ih (O ++ [needVal l O O.length]) (by simp; omega)
    rw [List.length_append, List.length_singleton, List.append_assoc, List.singleton_append] at hr
    have c1 : (O.length : Int) < (l.length : Int) := by omega
    have c2 : (0 : Int) ≤ (O.length : Int) := by omega
    have c3 : (O.length : Int) < ((lossesOf l).length : Int) := by omega
    have c4 : ∀ R : List Int, (O.length : Int) < ((O ++ (0 : Int) :: R).length : Int) := by intro R; simp; omega
    by_cases hn : (pp l O.length).f3 > 0
    · obtain ⟨K, hK⟩ := (branch_press h hi hn).1
      have e : needVal l O O.length = needAt l O.length := by unfold needVal; rw [if_pos hn]
      simp only [buildFrom]
      rw [e] at hr ⊢
      refine ev_step K (fun k hk => ?_) hr
      simp only [P.impl_needsOf.l0, if_pos c1, if_pos c2, if_pos c3, rd_pp, rd_gi, hK k hk, Option.bind_some, List.replicate_succ, Int.toNat_natCast, if_pos (c4 _), set_mid]
      rw [w64_succ (by omega), if_pos hn]
      rfl
    · have e : needVal l O O.length = 0 := by unfold needVal; rw [if_neg hn]
      simp only [buildFrom]
      rw [e] at hr ⊢
      refine ev_step 0 (fun k hk => ?_) hr
      simp only [P.impl_needsOf.l0, if_pos c1, if_pos c2, rd_pp, List.replicate_succ]
      rw [w64_succ (by omega), if_neg hn]
theorem needs_ev : Ev (fun k => P.impl_needsOf.f k l) (needsOf l) := by
  obtain ⟨h1, h2, h3, h4, h5, h6⟩ := lineB_spec h
  refine ev_congr 21 (fun k hk => ?_) (needs_l0 h l.length [] (by simp))
  simp only [P.impl_needsOf.f, (losses_eq h k (by omega)).1, Option.bind_some]
  rw [if_pos (by omega), if_pos (by omega), Int.toNat_natCast]
  rfl
end
end Go.Proofs.Ytenfngleiohbhaa

/- The branch that needs most: both sides. Conditions: none. -/
namespace Go.Proofs.Ytenfngleiohbhaa
open Go.RowKit Go.Proofs.YtenfngleiohbhaaW.PrintWords
set_option linter.unusedSimpArgs false
set_option linter.unusedVariables false
/-- The branch number b needs most of the first i ones; -1 where there is none. -/
def Most (l : List Lp) (i : Nat) (b : Int) : Prop := (b = -1 ∧ ∀ j, j < i → ¬ (pp l j).f3 > 0) ∨ ∃ n : Nat, b = n ∧ n < i ∧ (pp l n).f3 > 0 ∧ ∀ j, j < i → (pp l j).f3 > 0 → needAt l j ≤ needAt l n
def hardStep (l : List Lp) (i : Nat) (b : Int) : Int := if (pp l i).f3 > 0 then (if b < 0 then (i : Int) else if needAt l i > needAt l b.toNat then (i : Int) else b) else b
theorem most_step {l : List Lp} {i : Nat} {b : Int} (h : Most l i b) : Most l (i + 1) (hardStep l i b) := by
  unfold hardStep
  by_cases hn : (pp l i).f3 > 0
  · rw [if_pos hn]
    rcases h with ⟨rfl, h⟩ | ⟨n, rfl, h1, h2, h3⟩
    · rw [if_pos (by omega)]
      refine .inr ⟨i, rfl, by omega, hn, fun j hj hj2 => ?_⟩
      by_cases e : j = i
      · rw [e]; exact Int.le_refl _
      · exact absurd hj2 (h j (by omega))
    · rw [if_neg (by omega), Int.toNat_natCast]
      by_cases hc : needAt l i > needAt l n
      · rw [if_pos hc]
        refine .inr ⟨i, rfl, by omega, hn, fun j hj hj2 => ?_⟩
        by_cases e : j = i
        · rw [e]; exact Int.le_refl _
        · have := h3 j (by omega) hj2
          omega
      · rw [if_neg hc]
        refine .inr ⟨n, rfl, by omega, h2, fun j hj hj2 => ?_⟩
        by_cases e : j = i
        · rw [e]; omega
        · exact h3 j (by omega) hj2
  · rw [if_neg hn]
    rcases h with ⟨rfl, h⟩ | ⟨n, rfl, h1, h2, h3⟩
    · refine .inl ⟨rfl, fun j hj => ?_⟩
      by_cases e : j = i
      · rw [e]; exact hn
      · exact h j (by omega)
    · refine .inr ⟨n, rfl, by omega, h2, fun j hj hj2 => ?_⟩
      by_cases e : j = i
      · rw [e] at hj2; exact absurd hj2 hn
      · exact h3 j (by omega) hj2
def hardFrom (l : List Lp) : Nat → Nat → Int → Int
  | 0, _, b => b
  | d + 1, i, b => hardFrom l d (i + 1) (hardStep l i b)
theorem most_from (l : List Lp) : ∀ (d i : Nat) (b : Int), Most l i b → Most l (i + d) (hardFrom l d i b)
  | 0, i, b, h => h
  | d + 1, i, b, h => by
    have := most_from l d (i + 1) _ (most_step h)
    rw [show i + (d + 1) = i + 1 + d by omega]
    exact this
def hardOf (l : List Lp) : Int := hardFrom l l.length 0 (-1)
theorem hardOf_most (l : List Lp) : Most l l.length (hardOf l) := by
  have := most_from l l.length 0 (-1) (.inl ⟨rfl, fun j hj => by omega⟩)
  rw [Nat.zero_add] at this
  exact this
section
variable {l : List Lp} (h : lineB l = true)
include h
theorem liHardest_l0 : ∀ (d i : Nat) (b : Int), i + d = l.length → Most l i b → Ev (fun k => P.spec_liHardest.l0 k l (lossesOf l) b l (l.length : Int) (i : Int)) (hardFrom l d i b) := by
  obtain ⟨h1, h2, _, _⟩ := lineB_spec h
  intro d
  induction d with
  | zero =>
    intro i b hd hm
    refine ev_end 0 (fun k _ => ?_)
    simp only [P.spec_liHardest.l0, hardFrom]
    rw [if_neg (by omega)]
  | succ d ih =>
    intro i b hd hm
    have e := ih (i + 1) _ (by omega) (most_step hm)
    have c1 : (i : Int) < (l.length : Int) := by omega
    have c2 : (0 : Int) ≤ (i : Int) := by omega
    simp only [hardFrom]
    by_cases hn : (pp l i).f3 > 0
    · rcases hm with ⟨rfl, hm⟩ | ⟨n, rfl, m1, m2, m3⟩
      · refine ev_step 0 (fun k _ => ?_) e
        simp only [P.spec_liHardest.l0, if_pos c1, if_pos c2, rd_pp, hardStep, if_pos hn]
        rw [if_pos (by omega), if_pos (by omega), w64_succ (by omega)]
      · obtain ⟨K, hK⟩ := liNeeds_ev h (i := i) (by omega) hn
        obtain ⟨K', hK'⟩ := liNeeds_ev h (i := n) (by omega) m2
        have c6 : ¬ (n : Int) < 0 := by omega
        refine ev_step (max K K') (fun k hk => ?_) e
        simp only [P.spec_liHardest.l0, if_pos c1, if_pos c2, rd_pp, hardStep, if_pos hn, hK k (by omega), hK' k (by omega), Option.bind_some, Int.toNat_natCast, if_neg c6]
        rw [w64_succ (by omega)]
        by_cases hc : needAt l i > needAt l n
        · rw [if_pos hc, if_pos hc]
        · rw [if_neg hc, if_neg hc]
    · refine ev_step 0 (fun k _ => ?_) e
      simp only [P.spec_liHardest.l0, if_pos c1, if_pos c2, rd_pp, hardStep, if_neg hn]
      rw [w64_succ (by omega)]
theorem liHardest_ev : Ev (fun k => P.spec_liHardest.f k l) (hardOf l) := by
  refine ev_congr 21 (fun k hk => ?_) (liHardest_l0 h l.length 0 (-1) (by omega) (.inl ⟨rfl, fun j hj => by omega⟩))
  simp only [P.spec_liHardest.f, (losses_eq h k (by omega)).2, Option.bind_some]
  rfl
/-- There is a branch. -/
theorem hard_some : ∃ n : Nat, hardOf l = n ∧ n < l.length ∧ (pp l n).f3 > 0 ∧ ∀ j, j < l.length → (pp l j).f3 > 0 → needAt l j ≤ needAt l n := by
  obtain ⟨h1, h2, h3, h4, h5, h6⟩ := lineB_spec h
  rcases hardOf_most l with ⟨_, hm⟩ | hm
  · exfalso
    have hlast : l.length - 1 < l.length := by omega
    have hgo := (goesOn_iff l h2 h3 h4).2 (fun j hj => (h5 j hj).1) (l.length - 1) hlast
    have hn := hm (l.length - 1) hlast
    have ha := h4 (l.length - 1) hlast
    simp only [partOk, decide_eq_true_eq] at ha
    by_cases e : (pp l (l.length - 1)).f3 = 0
    · obtain ⟨i, i1, i2⟩ := hgo e
      have := h3 i i1
      omega
    · have := ha.2.2.2.2 e
      omega
  · exact hm
end
end Go.Proofs.Ytenfngleiohbhaa

/- HardestBranch: the plain law. Conditions: none. -/
namespace Go.Proofs.Ytenfngleiohbhaa
open Go.RowKit Go.Proofs.YtenfngleiohbhaaW.PrintWords
set_option linter.unusedSimpArgs false
set_option linter.unusedVariables false
theorem hard_l0 {l : List Lp} (h : lineB l = true) : ∀ (d i : Nat) (b : Int), i + d = l.length → Most l i b → Ev (fun k => P.impl_HardestBranch.l0 k (needsOf l) b l (l.length : Int) (i : Int)) (hardFrom l d i b, true) := by
  obtain ⟨h1, h2, _, _⟩ := lineB_spec h
  have hN := needsOf_length l
  intro d
  induction d with
  | zero =>
    intro i b hd hm
    refine ev_end 0 (fun k _ => ?_)
    simp only [P.impl_HardestBranch.l0, hardFrom]
    rw [if_neg (by omega)]
  | succ d ih =>
    intro i b hd hm
    have e := ih (i + 1) _ (by omega) (most_step hm)
    have c1 : (i : Int) < (l.length : Int) := by omega
    have c2 : (0 : Int) ≤ (i : Int) := by omega
    have c3 : (i : Int) < ((needsOf l).length : Int) := by omega
    simp only [hardFrom]
    by_cases hn : (pp l i).f3 > 0
    · rcases hm with ⟨rfl, hm⟩ | ⟨n, rfl, m1, m2, m3⟩
      · refine ev_step 0 (fun k _ => ?_) e
        simp only [P.impl_HardestBranch.l0, if_pos c1, if_pos c2, rd_pp, hardStep, if_pos hn]
        rw [if_pos (by omega), if_pos (by omega), w64_succ (by omega)]
      · have c4 : (n : Int) < ((needsOf l).length : Int) := by omega
        have c5 : (0 : Int) ≤ (n : Int) := by omega
        have c6 : ¬ (n : Int) < 0 := by omega
        refine ev_step 0 (fun k hk => ?_) e
        simp only [P.impl_HardestBranch.l0, if_pos c1, if_pos c2, if_pos c3, if_pos c4, if_pos c5, if_neg c6, rd_pp, rd_gi, hardStep, if_pos hn, Int.toNat_natCast, gi_needs l i (by omega), gi_needs l n (by omega), if_pos m2]
        rw [w64_succ (by omega)]
        by_cases hc : needAt l i > needAt l n
        · rw [if_pos hc, if_pos hc]
        · rw [if_neg hc, if_neg hc]
    · refine ev_step 0 (fun k _ => ?_) e
      simp only [P.impl_HardestBranch.l0, if_pos c1, if_pos c2, rd_pp, hardStep, if_neg hn]
      rw [w64_succ (by omega)]
theorem HardestBranch_same (l : List Lp) (hl : l.length ≤ 1048576) : ∃ v : Int × Bool, ∃ K, ∀ k, K ≤ k → P.impl_HardestBranch.f k l = some v ∧ P.spec_HardestBranch.f k l = some v := by
  obtain ⟨K, hK⟩ := line_both l hl
  by_cases h : lineB l = true
  · obtain ⟨K1, hK1⟩ := liHardest_ev h
    obtain ⟨K2, hK2⟩ := needs_ev h
    obtain ⟨K3, hK3⟩ := hard_l0 h l.length 0 (-1) (by omega) (.inl ⟨rfl, fun j hj => by omega⟩)
    refine ⟨(hardOf l, true), K + K1 + K2 + K3, fun k hk => ?_⟩
    have hk1 := hK k (by omega)
    have hk2 := hK3 k (by omega)
    simp only [P.impl_HardestBranch.f, P.spec_HardestBranch.f, hk1.1, hk1.2, h, Option.bind_some, if_true, hK1 k (by omega), hK2 k (by omega)]
    exact ⟨hk2, trivial⟩
  · refine ⟨(0, false), K, fun k hk => ?_⟩
    have hk1 := hK k hk
    simp only [P.impl_HardestBranch.f, P.spec_HardestBranch.f, hk1.1, hk1.2, Option.bind_some, if_neg h, and_self]
theorem FnExactHardestBranch.pure : FnExactHardestBranch.Said := by
  intro l ⟨hl, hw⟩
  by_cases h : l.length ≤ 1048576
  · obtain ⟨v, K, hv⟩ := HardestBranch_same (l.map toLp) (by simpa using h)
    obtain ⟨k, hk⟩ : ∃ k : Nat, K + l.length + 60 ≤ k := ⟨_, Nat.le_refl _⟩
    refine ⟨k + 1, ?_⟩
    simp only [P.laws_FnExactHardestBranch.f, szLinePartS_eq l hl, Option.bind_some]
    rw [if_pos h, if_neg (by omega)]
    obtain ⟨hv1, hv2⟩ := hv (k + 1) (by omega)
    simp only [toLinePartS_eq l h (k + 1) (by omega), Option.bind_some, hv1, hv2, if_true, P.laws_FnExactHardestBranch.j0, toLinePartS_eq l h k (by omega), bne_self_eq_false, Bool.false_eq_true, if_false,
      eqLinePartS_refl (l.map toLp) (by simpa using h) k (by simp; omega)]
  · refine ⟨1, ?_⟩
    simp only [P.laws_FnExactHardestBranch.f, szLinePartS_eq l hl, Option.bind_some]
    rw [if_neg h, if_pos (by omega)]
end Go.Proofs.Ytenfngleiohbhaa

namespace Go.Proofs.Ytenfngleiohbhaa.fnExactHardestBranch
open Go.ChangeShapes Go.WideShapes Go.ChangeAt Go.RowKit Go.Proofs.Ytenfngleiohbhaa.Opens Go.Proofs.YtenfngleiohbhaaW.PrintWords
open Go.ChangeMaps (open_string shut_string)
set_option linter.unusedVariables false
theorem own : ownKnob Try.prog.godebug = none := by kernel_rfl
theorem laidOut : laidOutB Try.prog = true := by kernel_rfl
set_option maxRecDepth 100000 in
theorem lifted (os : Os) (started : os.Started) (H : Type) (enc : TypeId × Value → H) :
    ReturnsInHanded {} Try.checked os 8 .any (Rows.fnExactHardestBranchSpec.pre6 enc Try.prog Try.f8 Rows.fnExactHardestBranchRow.domain false) (Rows.fnExactHardestBranchSpec.post enc Try.prog Try.f8 false true false false) := by
  refine returnsInHanded_of_change_sized (C := Try.checked) own started (by kernel_rfl) Try.func8
    (ChangeSpec.witness6 (enc := enc) (C := Try.checked) false ⟨#[], #[.slice none 0 0], []⟩ 8 (by kernel_rfl) (by kernel_rfl) (by kernel_rfl) (by kernel_rfl)) ?_
  intro W base args ds gs before hval0 hW hcnd hsz0 _
  have hval : ∀ (j : Nat) t v, Try.f8.params[j]? = some t → args[j]? = some v → Value.okWide Try.prog W .any base t v := hval0
  have hW' := hW
  obtain ⟨p, q, hA0, hV, rfl, hfz, hnd⟩ := hW
  have hA : DataW.TrodAll enc Try.prog W 0 (fun _ => true) true Try.f8.params.toList args.toList ds p := hA0
  rw [Try.params8] at hA hval
  obtain ⟨v0, vs0, d0, ds0, p0, q0, hargs, rfl, rfl, h0, r0⟩ := trodAll_cons hA
  obtain ⟨rfl, rfl, rfl⟩ := trodAll_nil r0
  obtain rfl : args = #[v0] := by cases args; simp_all
  obtain ⟨rfl, rfl⟩ := trodVars_none hV
  have lt0 : ∀ x ∈ p0, x.block < W.heap.size := by obtain ⟨m, hm⟩ := h0; exact DataW.trod_lt m _ _ _ hm
  have k0 := h0
  obtain ⟨a0, len0, cap0, rfl⟩ := okWide_slice Try.underlying22 (hval 0 22 v0 rfl rfl)
  obtain ⟨l0, rfl, hc0, hr0, y0⟩ := opn_slice_val (opn_slice 40 Try.underlying22 (by kernel_rfl) opn40) h0
  obtain ⟨k, hp⟩ := FnExactHardestBranch.pure l0 y0
  clear hA0 hval0 hsz0
  refine (P.laws_FnExactHardestBranch.calls k a0 cap0 l0 true W hr0 hc0 hp).mono fun e W' ⟨he, bel0⟩ => ?_
  have bel : Below W.heap.size W W' := bel0
  subst he
  exact ⟨_, rfl, _, _, _, [], _, [], hW', trodAll_mk1 (shut_bool Try.underlying4 _), (trodAll_cons_mk (Below.trod laidOut (by kernel_rfl) (of_decide_eq_true (by kernel_rfl)) k0 bel lt0) trodAll_mk0), rfl, bel.frame _, fun h => by cases h⟩
theorem over : Rows.fnExactHardestBranchRow.holds Try.pinned (OpenSpec.ofChange Rows.fnExactHardestBranchSpec) :=
  OpenClaim.holds_of_wide 8 Try.f8 rfl rfl rfl rfl rfl rfl rfl ⟨rfl, rfl, rfl, rfl, rfl⟩ rfl rfl rfl rfl rfl (by kernel_rfl) Try.func8 (by kernel_rfl)
    (of_decide_eq_true (by kernel_rfl)) (by unfold Func.isWrapper; first | (rw [if_pos (by decide +kernel)]; kernel_rfl) | (rw [if_neg (by decide +kernel)]; exact ⟨rfl, rfl⟩))
    (fun os started H enc _ => lifted os started H enc)
end Go.Proofs.Ytenfngleiohbhaa.fnExactHardestBranch
namespace Go.Proofs.Ytenfngleiohbhaa
/-- The statement. -/
theorem fnExactHardestBranch_holds : Rows.FnExactHardestBranchSaid := fnExactHardestBranch.over
#print axioms fnExactHardestBranch_holds
end Go.Proofs.Ytenfngleiohbhaa
