/- Plain lemmas on rounds, wraps, loops and lists, with no program in sight. -/
import Derived.Test.YtjffblojognlbaaWNEv
import Derived.Test.YtjffblojognlbaaWMore
namespace Go.Proofs.Ytjffblojognlbaa
open Go.RowKit Go.Proofs.YtjffblojognlbaaW.PrintWords
set_option linter.unusedSimpArgs false
set_option linter.unusedVariables false

theorem bound_i64 {a : Int} (h : (Lit.int .i64 a).wf = true) : -9223372036854775808 ≤ a ∧ a ≤ 9223372036854775807 := by
  simp only [Lit.wf, IntKind.min, IntKind.max, IntKind.signed, IntKind.bits, Bool.and_eq_true, decide_eq_true_eq, if_true] at h
  omega
theorem w64 {x : Int} (h0 : -9223372036854775808 ≤ x) (h1 : x ≤ 9223372036854775807) : wrap64 x = x := by
  unfold wrap64
  omega
theorem w64_succ {i : Nat} (h : i < 4611686018427387904) : wrap64 ((i : Int) + 1) = ((i + 1 : Nat) : Int) := by
  unfold wrap64
  omega
theorem some_dec {p q : Prop} [Decidable p] [Decidable q] (h : p ↔ q) : some (decide p) = some (decide q) := by simp [h]
theorem some_t {q : Prop} [Decidable q] (h : q) : some true = some (decide q) := by simp [h]
theorem some_f {q : Prop} [Decidable q] (h : ¬ q) : some false = some (decide q) := by simp [h]
theorem bind_if {α : Type} {c : Prop} [Decidable c] (f : Bool → Option α) : (some (decide c)).bind f = if c then f true else f false := by
  by_cases h : c <;> simp [h]
theorem bind_ifb {α : Type} (c : Bool) (f : Bool → Option α) : (some c).bind f = if c = true then f true else f false := by
  cases c <;> simp

/-! ### A loop with rounds: what it comes to -/
section
variable {σ ρ : Type}
def runFrom (step : Nat → σ → σ ⊕ ρ) (fin : σ → ρ) : Nat → Nat → σ → ρ
  | 0, _, s => fin s
  | d + 1, i, s => match step i s with
    | .inl s' => runFrom step fin d (i + 1) s'
    | .inr r => r
theorem run_loop {F : Nat → σ → Int → Option ρ} {n : Nat} (step : Nat → σ → σ ⊕ ρ) (fin : σ → ρ) (Inv : Nat → σ → Prop)
    (hs : ∀ k i s, i < n → Inv i s → F (k + 1) s (i : Int) = match step i s with | .inl s' => F k s' ((i + 1 : Nat) : Int) | .inr r => some r)
    (hi : ∀ i s s', i < n → Inv i s → step i s = .inl s' → Inv (i + 1) s')
    (he : ∀ k s, Inv n s → F (k + 1) s (n : Int) = some (fin s)) :
    ∀ (d i : Nat) (s : σ) (k : Nat), i + d = n → d < k → Inv i s → F k s (i : Int) = some (runFrom step fin d i s) := by
  intro d
  induction d with
  | zero =>
    intro i s k h hk hI
    obtain ⟨k, rfl⟩ : ∃ m, k = m + 1 := ⟨k - 1, by omega⟩
    obtain rfl : i = n := by omega
    exact he k s hI
  | succ d ih =>
    intro i s k h hk hI
    obtain ⟨k, rfl⟩ : ∃ m, k = m + 1 := ⟨k - 1, by omega⟩
    rw [hs k i s (by omega) hI]
    simp only [runFrom]
    cases hst : step i s with
    | inl s' => exact ih (i + 1) s' k (by omega) (by omega) (hi i s s' (by omega) hI hst)
    | inr r => rfl
end
/-- All from i on, d of them. -/
def allFrom (p : Nat → Bool) : Nat → Nat → Bool
  | 0, _ => true
  | d + 1, i => p i && allFrom p d (i + 1)
theorem allFrom_iff (p : Nat → Bool) : ∀ (d i : Nat), allFrom p d i = true ↔ ∀ j, i ≤ j → j < i + d → p j = true
  | 0, i => by simp [allFrom]; intro j h1 h2; omega
  | d + 1, i => by
    simp only [allFrom, Bool.and_eq_true, allFrom_iff p d (i + 1)]
    constructor
    · intro ⟨h, hh⟩ j h1 h2
      by_cases e : j = i
      · rw [e]; exact h
      · exact hh j (by omega) (by omega)
    · intro h
      exact ⟨h i (Nat.le_refl _) (by omega), fun j h1 h2 => h j (by omega) (by omega)⟩
theorem allFrom_congr {p q : Nat → Bool} : ∀ (d i : Nat), (∀ j, i ≤ j → j < i + d → p j = q j) → allFrom p d i = allFrom q d i
  | 0, _, _ => rfl
  | d + 1, i, h => by simp only [allFrom]; rw [h i (Nat.le_refl _) (by omega), allFrom_congr d (i + 1) (fun j h1 h2 => h j (by omega) (by omega))]
/-- A loop that goes on while p holds, else says false. -/
theorem all_loop {F : Nat → Int → Option Bool} {n : Nat} (p : Nat → Bool)
    (hs : ∀ k i, i < n → (∀ j, j < i → p j = true) → F (k + 1) (i : Int) = if p i = true then F k ((i + 1 : Nat) : Int) else some false)
    (he : ∀ k, F (k + 1) (n : Int) = some true) :
    ∀ (d i : Nat) (k : Nat), i + d = n → d < k → (∀ j, j < i → p j = true) → F k (i : Int) = some (allFrom p d i) := by
  intro d
  induction d with
  | zero =>
    intro i k h hk hI
    obtain ⟨k, rfl⟩ : ∃ m, k = m + 1 := ⟨k - 1, by omega⟩
    obtain rfl : i = n := by omega
    exact he k
  | succ d ih =>
    intro i k h hk hI
    obtain ⟨k, rfl⟩ : ∃ m, k = m + 1 := ⟨k - 1, by omega⟩
    rw [hs k i (by omega) hI]
    simp only [allFrom]
    by_cases hp : p i = true
    · rw [if_pos hp, hp, Bool.true_and]
      refine ih (i + 1) k (by omega) (by omega) (fun j hj => ?_)
      by_cases e : j = i
      · rw [e]; exact hp
      · exact hI j (by omega)
    · rw [if_neg hp]
      simp [Bool.eq_false_iff.2 hp]

/-! ### Lists -/
theorem fill_set {α : Type} (A : List α) (d : Nat) (z v : α) : (A ++ List.replicate (d + 1) z).set A.length v = (A ++ [v]) ++ List.replicate d z := by
  rw [List.set_append_right _ _ (by omega), Nat.sub_self, List.replicate_succ, List.set_cons_zero, List.append_assoc]
  rfl
theorem take_map_succ {α β : Type} (f : α → β) (l : List α) (z : α) (i : Nat) (h : i < l.length) : (l.take (i + 1)).map f = (l.take i).map f ++ [f (l.getD i z)] := by
  rw [List.take_succ_eq_append_getElem h, List.map_append]
  simp [List.getD_eq_getElem?_getD, List.getElem?_eq_getElem h]
theorem set_split {α : Type} (l : List α) (i : Nat) (h : i < l.length) (v : α) : l.set i v = l.take i ++ v :: l.drop (i + 1) := List.set_eq_take_append_cons_drop .. |>.trans (by rw [if_pos h])

/-- A loop that goes on while p holds, else says false; behind the last one it says b. -/
theorem all_loop_end {F : Nat → Int → Option Bool} {n : Nat} (p : Nat → Bool) (b : Bool) (K : Nat)
    (hs : ∀ k i, K ≤ k → i < n → (∀ j, j < i → p j = true) → F (k + 1) (i : Int) = if p i = true then F k ((i + 1 : Nat) : Int) else some false)
    (he : ∀ k, K ≤ k → (∀ j, j < n → p j = true) → F (k + 1) (n : Int) = some b) :
    ∀ (d i : Nat) (k : Nat), i + d = n → K + d < k → (∀ j, j < i → p j = true) → F k (i : Int) = some (allFrom p d i && b) := by
  intro d
  induction d with
  | zero =>
    intro i k h hk hI
    obtain ⟨k, rfl⟩ : ∃ m, k = m + 1 := ⟨k - 1, by omega⟩
    obtain rfl : i = n := by omega
    rw [he k (by omega) hI]
    simp [allFrom]
  | succ d ih =>
    intro i k h hk hI
    obtain ⟨k, rfl⟩ : ∃ m, k = m + 1 := ⟨k - 1, by omega⟩
    rw [hs k i (by omega) (by omega) hI]
    simp only [allFrom]
    by_cases hp : p i = true
    · rw [if_pos hp, hp, Bool.true_and]
      refine ih (i + 1) k (by omega) (by omega) (fun j hj => ?_)
      by_cases e : j = i
      · rw [e]; exact hp
      · exact hI j (by omega)
    · rw [if_neg hp]
      simp [Bool.eq_false_iff.2 hp]
theorem allFrom_true : ∀ d i, allFrom (fun _ => true) d i = true
  | 0, _ => rfl
  | d + 1, i => by simp [allFrom, allFrom_true d]

/-! ### A copy, element by element; marks, and their test -/
theorem copy_loop {α β : Type} (F : Nat → List β → Int → Option (List β)) (l : List α) (za : α) (conv : α → β) (z : β) (K : Nat)
    (hs : ∀ k i d (B : List β), K ≤ k → i + d + 1 = l.length → B.length = i → F (k + 1) (B ++ List.replicate (d + 1) z) (i : Int) = F k ((B ++ [conv (l.getD i za)]) ++ List.replicate d z) ((i + 1 : Nat) : Int))
    (he : ∀ k (B : List β), K ≤ k → B.length = l.length → F (k + 1) B (l.length : Int) = some B) :
    ∀ (d i k : Nat), i + d = l.length → K + d < k → F k ((l.take i).map conv ++ List.replicate d z) (i : Int) = some (l.map conv) := by
  intro d
  induction d with
  | zero =>
    intro i k h hk
    obtain ⟨k, rfl⟩ : ∃ m, k = m + 1 := ⟨k - 1, by omega⟩
    obtain rfl : i = l.length := by omega
    rw [List.take_length, List.replicate_zero, List.append_nil]
    exact he k _ (by omega) (by simp)
  | succ d ih =>
    intro i k h hk
    obtain ⟨k, rfl⟩ : ∃ m, k = m + 1 := ⟨k - 1, by omega⟩
    rw [hs k i d _ (by omega) (by omega) (by simp; omega), ← take_map_succ conv l za i (by omega)]
    exact ih (i + 1) k (by omega) (by omega)
section
variable {α : Type}
def marked (mk : Int → α → α) (w : Int) : Int → List α → List α
  | _, [] => []
  | m, x :: l => mk m x :: marked mk w (m + w) l
theorem marked_length (mk : Int → α → α) (w : Int) : ∀ (l : List α) (m : Int), (marked mk w m l).length = l.length
  | [], _ => rfl
  | x :: l, m => by show (marked mk w (m + w) l).length + 1 = l.length + 1; rw [marked_length mk w l]
theorem mark_loop (F : Nat → List α → Int → Int → Option (Int × List α)) (mk : Int → α → α) (w : Nat) (K : Nat)
    (hs : ∀ k (A : List α) (x : α) (l : List α) (m : Int), K ≤ k → 0 ≤ m → m + w ≤ 1000000000 → A.length + l.length < 1048577 → F (k + 1) (A ++ x :: l) m (A.length : Int) = F k (A ++ mk m x :: l) (m + w) ((A.length + 1 : Nat) : Int))
    (he : ∀ k (A : List α) (m : Int), F (k + 1) A m (A.length : Int) = some (m, A)) :
    ∀ (l A : List α) (m : Int) (k : Nat), A.length + l.length ≤ 1048576 → 0 ≤ m → m + w * l.length ≤ 1000000000 → K + l.length < k → F k (A ++ l) m (A.length : Int) = some (m + w * l.length, A ++ marked mk w m l) := by
  intro l
  induction l with
  | nil =>
    intro A m k h h0 h1 hk
    obtain ⟨k, rfl⟩ : ∃ m, k = m + 1 := ⟨k - 1, by omega⟩
    rw [List.append_nil, he]
    simp [marked]
  | cons x l ih =>
    intro A m k h h0 h1 hk
    simp only [List.length_cons] at h h1 hk
    have hw : (w : Int) * ((l.length + 1 : Nat) : Int) = w * (l.length : Int) + w := by rw [Int.natCast_add, Int.mul_add]; simp
    have hn : 0 ≤ (w : Int) * (l.length : Int) := Int.mul_nonneg (by omega) (by omega)
    obtain ⟨k, rfl⟩ : ∃ m, k = m + 1 := ⟨k - 1, by omega⟩
    rw [hs k A x l m (by omega) h0 (by omega) (by omega)]
    have := ih (A ++ [mk m x]) (m + w) k (by simp; omega) (by omega) (by omega) (by omega)
    rw [List.length_append, List.length_singleton, List.append_assoc, List.singleton_append] at this
    rw [this, List.append_assoc, List.singleton_append, List.length_cons, hw, Int.add_assoc, Int.add_comm (w : Int)]
    rfl
theorem held_loop (F : Nat → List α → Int → Int → Option Int) (mk : Int → α → α) (w : Nat) (K : Nat)
    (hs : ∀ k (A : List α) (x : α) (l : List α) (m : Int), K ≤ k → 0 ≤ m → m + w ≤ 1000000000 → A.length + l.length < 1048577 → F (k + 1) (A ++ mk m x :: l) m (A.length : Int) = F k (A ++ mk m x :: l) (m + w) ((A.length + 1 : Nat) : Int))
    (he : ∀ k (A : List α) (m : Int), F (k + 1) A m (A.length : Int) = some m) :
    ∀ (l A : List α) (m : Int) (k : Nat), A.length + l.length ≤ 1048576 → 0 ≤ m → m + w * l.length ≤ 1000000000 → K + l.length < k → F k (A ++ marked mk w m l) m (A.length : Int) = some (m + w * l.length) := by
  intro l
  induction l with
  | nil =>
    intro A m k h h0 h1 hk
    obtain ⟨k, rfl⟩ : ∃ m, k = m + 1 := ⟨k - 1, by omega⟩
    have hm : marked mk w m [] = [] := rfl
    rw [hm, List.append_nil, he]
    simp
  | cons x l ih =>
    intro A m k h h0 h1 hk
    simp only [List.length_cons] at h h1 hk
    have hw : (w : Int) * ((l.length + 1 : Nat) : Int) = w * (l.length : Int) + w := by rw [Int.natCast_add, Int.mul_add]; simp
    have hn : 0 ≤ (w : Int) * (l.length : Int) := Int.mul_nonneg (by omega) (by omega)
    obtain ⟨k, rfl⟩ : ∃ m, k = m + 1 := ⟨k - 1, by omega⟩
    have hm : marked mk w m (x :: l) = mk m x :: marked mk w (m + w) l := rfl
    rw [hm, hs k A x _ m (by omega) h0 (by omega) (by rw [marked_length]; omega)]
    have := ih (A ++ [mk m x]) (m + w) k (by simp; omega) (by omega) (by omega) (by omega)
    rw [List.length_append, List.length_singleton, List.append_assoc, List.singleton_append] at this
    rw [this, List.length_cons, hw, Int.add_assoc, Int.add_comm (w : Int)]
end
theorem set_mid {α : Type} (A : List α) (v u : α) (l : List α) : (A ++ v :: l).set A.length u = A ++ u :: l := by
  rw [List.set_append_right _ _ (by omega), Nat.sub_self, List.set_cons_zero]
theorem getD_mid {α : Type} (A : List α) (v : α) (l : List α) (z : α) : (A ++ v :: l).getD A.length z = v := by
  simp [List.getD_eq_getElem?_getD]
end Go.Proofs.Ytjffblojognlbaa
