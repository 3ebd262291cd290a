/- Written by a program of this session (wip/p2) out of the translation: plain Lean functions, and that the calls of the Go functions come to what these say. Conditions: as each contract states. -/
import Derived.Test.YteinfbfaijjknaaPx0
namespace Go.Proofs.Yteinfbfaijjknaa.P
open Go.RowKit Go.Proofs.YteinfbfaijjknaaW.PrintWords Go.Proofs.YteinfbfaijjknaaW.PrintLast Go.Proofs.YteinfbfaijjknaaW.PrintMore
attribute [local go_sem] max2_int min2_int max_two min_two max_three min_three max_four min_four   -- for this text's walks alone
set_option linter.unusedVariables false
set_option linter.unusedSimpArgs false

/-! ### impl_findAppliance: function 66 -/
def impl_findAppliance.l0 : Nat → List (S26) → ByteArray → Int → Option (Int)
  | 0, _, _, _ => none
  | k + 1, x0, x1, x2 => if x2 < (x0.length : Int) then (if 0 ≤ x2 then (if ((rd_T26 x0 x2).f0).toList = x1.toList then (some x2) else (impl_findAppliance.l0 k x0 x1 (wrap64 (x2 + 1)))) else (none)) else (some (-1))
def impl_findAppliance.f (k : Nat) (l0 : List (S26)) (a1 : ByteArray) : Option (Int) := impl_findAppliance.l0 k l0 a1 0
theorem impl_findAppliance.mono_l : ∀ k, (∀ y0 y1 y2, LeO (impl_findAppliance.l0 k y0 y1 y2) (impl_findAppliance.l0 (k + 1) y0 y1 y2))
  | 0 => fun _ _ _ r h => by simp [impl_findAppliance.l0] at h
  | k + 1 => by
    have ih0 := impl_findAppliance.mono_l k
    · intro y0 y1 y2
      unfold impl_findAppliance.l0
      repeat' first
      | (with_reducible exact ih0 _ _ _)
      | (with_reducible exact LeO.refl _)
      | (with_reducible exact LeO.none _)
      | (with_reducible refine LeO.ite ?_ ?_)
theorem impl_findAppliance.mono : ∀ a0 a1 k, LeO (impl_findAppliance.f k a0 a1) (impl_findAppliance.f (k + 1) a0 a1) := fun a0 a1 k => impl_findAppliance.mono_l k a0 a1 0
set_option maxHeartbeats 1000000 in
theorem impl_findAppliance.clo (n : ByteArray) (i1 i2 i3 i4 : Int) (s : ByteArray) (g : Nat) (b : Bool) (W : World) (hc : W.cell? ⟨g, 0, none⟩ = some (.string s)) (hb : (n.toList == s.toList) = b) :
    Calls Try.prog 86 #[.agg #[.string n, .int .i64 i1, .int .i64 i2, .int .i64 i3, .int .i64 i4], .pointer (some ⟨g, 0, none⟩)] W fun e w' => e = .returned (.bool b) ∧ Below W.heap.size W w' := by
  have HB := Aside0.mk hb
  clear hb
  have hg : g < W.heap.size := World.block_lt_of_cell? W _ hc
  have hne : g ≠ W.heap.size := Nat.ne_of_lt hg
  go_enter Try.func86, Try.ntmps86
  go_wp2
  go_ret
  exact ⟨by rw [← HB.out]; rfl, by repeat (first | exact Below.refl _ _ | apply below_alloc | apply pw_below_drewN | apply below_drew)⟩
set_option maxHeartbeats 2000000 in
set_option maxRecDepth 100000 in
theorem impl_findAppliance.idx (k : Nat) (A0 : Option Addr) (c0 : Nat) (l0 : List (S26)) (s : ByteArray) (g : Nat) (r : Int) (w : World) (hr0 : Kd.C k26 w A0 l0.length l0) (hc : w.cell? ⟨g, 0, none⟩ = some (.string s)) (h : impl_findAppliance.l0 k l0 s 0 = some r) :
    Calls Try.prog 85 #[.slice A0 l0.length c0, .func (.func 86) #[] #[.pointer (some ⟨g, 0, none⟩)]] w fun e w' => e = .returned (.int .i64 r) ∧ Below w.heap.size w w' := by
  have HR0 := Aside0.mk hr0
  have HC := Aside0.mk hc
  clear hr0 hc
  have HB := Aside0.mk (Below.refl w.heap.size w)
  have H' := Aside0.mk h
  clear h
  go_enter Try.func85, Try.ntmps85
  go_wp2
  go_loopg [8] k (fun kq v8 w' => ∃ (x8_1 : Int), v8 = .int .i64 x8_1 ∧ Aside0 (impl_findAppliance.l0 kq l0 s x8_1 = some r) ∧ Aside0 (kq ≤ k) ∧ Aside0 (Below w.heap.size w w'))
  case atStart => exact ⟨(0), (by first | rfl | (simp; done)), H', ⟨Nat.le_refl _⟩, HB⟩
  case round =>
    clear H'
    clear HB
    obtain ⟨x8_1, rfl, HA, HK1, HB⟩ := hrel
    cases gk with
    | zero => exact absurd HA.out (by simp [impl_findAppliance.l0])
    | succ k1 =>
      have H := HA.out
      clear HA
      simp only [impl_findAppliance.l0] at H
      by_cases c4 : x8_1 < (l0.length : Int)
      · rw [if_pos c4] at H
        have c4b0 : decide (x8_1 < (l0.length : Int)) = true := decide_eq_true c4
        by_cases c5 : 0 ≤ x8_1
        · rw [if_pos c5] at H
          obtain ⟨ad, e207, hx0, hx1, hx2, hx3, hx4⟩ := at_T26 HR0.out x8_1 c5 c4
          cases e207
          replace hx0 := (HB.out.cell (World.block_lt_of_cell? w _ hx0)).trans hx0
          replace hx1 := (HB.out.cell (World.block_lt_of_cell? w _ hx1)).trans hx1
          replace hx2 := (HB.out.cell (World.block_lt_of_cell? w _ hx2)).trans hx2
          replace hx3 := (HB.out.cell (World.block_lt_of_cell? w _ hx3)).trans hx3
          replace hx4 := (HB.out.cell (World.block_lt_of_cell? w _ hx4)).trans hx4
          have HCr := Aside0.mk ((HB.out.cell (World.block_lt_of_cell? w _ HC.out)).trans HC.out)
          replace c5 := eq_true c5
          replace c4 := eq_true c4
          by_cases c6 : ((rd_T26 l0 x8_1).f0).toList = s.toList
          · rw [if_pos c6] at H
            obtain rfl := Option.some.inj H
            have C6 : Aside0 ((((rd_T26 l0 x8_1).f0).toList == s.toList) = true) := ⟨by simpa using c6⟩
            clear c6 H
            go_wp2_with (go_at_call 86; refine (impl_findAppliance.clo _ _ _ _ _ s g true _ ?hcc C6.out).mono ?_; (case hcc => exact HCr.out); rintro e w' ⟨rfl, hb⟩; have HB2 := Aside0.mk (below_step HB.out hb); clear hb)
            go_ret
            exact ⟨rfl, HB2.out⟩
          · rw [if_neg c6] at H
            have C6 : Aside0 ((((rd_T26 l0 x8_1).f0).toList == s.toList) = false) := ⟨by simpa using c6⟩
            have H' := Aside0.mk H
            clear c6 H
            go_wp2_with (go_at_call 86; refine (impl_findAppliance.clo _ _ _ _ _ s g false _ ?hcc C6.out).mono ?_; (case hcc => exact HCr.out); rintro e w' ⟨rfl, hb⟩; have HB2 := Aside0.mk (below_step HB.out hb); clear hb)
            go_roundg k1
            case measure => have := HK1.out; omega
            case rel => exact ⟨(wrap64 (x8_1 + 1)), (by first | rfl | (simp; done) | (simp [*]; done)), H', ⟨by have := HK1.out; omega⟩, HB2⟩
        · rw [if_neg c5] at H
          exact absurd H (by simp)
      · rw [if_neg c4] at H
        have c4b0 : decide (x8_1 < (l0.length : Int)) = false := decide_eq_false c4
        clear c4
        obtain rfl := Option.some.inj H
        go_wp2
        go_ret
        exact ⟨rfl, HB.out⟩
set_option maxHeartbeats 1000000 in
theorem impl_findAppliance.calls (k : Nat) (A0 : Option Addr) (c0 : Nat) (l0 : List (S26)) (a1 : ByteArray) (r : Int) (w : World) (hr0 : Kd.C k26 w A0 l0.length l0) (hc0 : l0.length ≤ c0) (h : impl_findAppliance.f k l0 a1 = some r) :
    Calls Try.prog 66 #[.slice A0 l0.length c0, .string a1] w fun e w' => e = .returned (.int .i64 r) ∧ Below w.heap.size w w' := by
  have HR0 := Aside0.mk hr0
  have H := Aside0.mk h
  clear hr0 hc0 h
  have hmf : ∀ (fn : Fn) (first cap : Array Value) (w : World), (Instr.makeFunc fn first cap).run Try.prog w = .ok (.func fn first cap) w := fun _ _ _ _ => rfl
  have HB := Aside0.mk (below_alloc (Below.refl w.heap.size w) (.cells #[.string a1] 9))
  have HC2 := Aside0.mk (Kd.C_below HR0.out HB.out)
  go_enter Try.func66, Try.ntmps66
  go_wp2_with (go_at_call 85; refine (impl_findAppliance.idx k A0 c0 l0 a1 w.heap.size r _ ?hra ?hca H.out).mono ?_; (case hra => exact HC2.out); (case hca => simp); rintro e w' ⟨rfl, hb⟩; have HB2 := Aside0.mk (below_step HB.out hb); clear hb)
  go_ret
  exact ⟨rfl, HB2.out⟩

end Go.Proofs.Yteinfbfaijjknaa.P
