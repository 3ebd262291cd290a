/- Written by a program of this session (wip/p2) out of the translation: plain Lean functions, and that the calls of the Go functions come to what these say. Conditions: as each contract states. -/
import Derived.Test.YtlfhedmmlfpekaaPx0
import Derived.Test.YtlfhedmmlfpekaaPx1
namespace Go.Proofs.Ytlfhedmmlfpekaa.P
open Go.RowKit Go.Proofs.YtlfhedmmlfpekaaW.PrintWords Go.Proofs.YtlfhedmmlfpekaaW.PrintLast Go.Proofs.YtlfhedmmlfpekaaW.PrintMore
attribute [local go_sem] max2_int min2_int max_two min_two max_three min_three max_four min_four   -- for this text's walks alone
set_option linter.unusedVariables false
set_option linter.unusedSimpArgs false

/-! ### impl_rowFor: function 65 -/
def impl_rowFor.l0 : Nat → List (S64) → Int → Int → Int → Int → Option (Int)
  | 0, _, _, _, _, _ => none
  | k + 1, x0, y0, y1, y2, x2 => if x2 < (x0.length : Int) then (if 0 ≤ x2 then ((impl_Row_matches.f ((rd_T64 x0 x2).f0) ((rd_T64 x0 x2).f1) ((rd_T64 x0 x2).f2) ((rd_T64 x0 x2).f3) ((rd_T64 x0 x2).f4) ((rd_T64 x0 x2).f5) ((rd_T64 x0 x2).f6) y0 y1 y2).bind fun t => (if t = true then (some x2) else (impl_rowFor.l0 k x0 y0 y1 y2 (wrap64 (x2 + 1))))) else (none)) else (some (-1))
def impl_rowFor.f (k : Nat) (l0 : List (S64)) (a1_0 : Int) (a1_1 : Int) (a1_2 : Int) : Option (Int) := impl_rowFor.l0 k l0 a1_0 a1_1 a1_2 0
theorem impl_rowFor.mono_l : ∀ k, (∀ y0 y1 y2 y3 y4, LeO (impl_rowFor.l0 k y0 y1 y2 y3 y4) (impl_rowFor.l0 (k + 1) y0 y1 y2 y3 y4))
  | 0 => fun _ _ _ _ _ r h => by simp [impl_rowFor.l0] at h
  | k + 1 => by
    have ih0 := impl_rowFor.mono_l k
    · intro y0 y1 y2 y3 y4
      unfold impl_rowFor.l0
      repeat' first
      | (with_reducible exact ih0 _ _ _ _ _)
      | (with_reducible exact LeO.refl _)
      | (with_reducible exact LeO.none _)
      | (with_reducible refine LeO.ite ?_ ?_)
      | (with_reducible refine LeO.bind ?_ (fun _ => ?_))
theorem impl_rowFor.mono : ∀ a0 a1 a2 a3 k, LeO (impl_rowFor.f k a0 a1 a2 a3) (impl_rowFor.f (k + 1) a0 a1 a2 a3) := fun a0 a1 a2 a3 k => impl_rowFor.mono_l k a0 a1 a2 a3 0
set_option maxHeartbeats 1000000 in
set_option maxRecDepth 100000 in
theorem impl_rowFor.clo (n0 n1 n2 n3 n4 n5 : Int) (A6 : Option Addr) (c6 : Nat) (l6 : List Int) (y0 y1 y2 : Int) (g : Nat) (b : Bool) (W : World) (hr6 : Kd.C (Kd.int .i64) W A6 l6.length l6) (hl6 : l6.length ≤ c6) (hc : W.heap[g]? = some (.cells #[.int .i64 y0, .int .i64 y1, .int .i64 y2] 25 (0, 0))) (hb : impl_Row_matches.f n0 n1 n2 n3 n4 n5 l6 y0 y1 y2 = some b) :
    Calls Try.prog 94 #[.agg #[.int .i64 n0, .int .i64 n1, .int .i64 n2, .int .i64 n3, .int .i64 n4, .int .i64 n5, .slice A6 l6.length c6], .pointer (some ⟨g, 0, none⟩)] W fun e w' => e = .returned (.bool b) ∧ Below W.heap.size W w' := by
  have HM := Aside0.mk hb
  clear hb
  have hu25 := Try.underlying25
  have hu64 := Try.underlying64
  have hg : g < W.heap.size := blk_lt hc
  have hne : g ≠ W.heap.size := Nat.ne_of_lt hg
  have hz0 : W.cell? ⟨g, 0, none⟩ = some (.int .i64 y0) := (blk_cell hc 0).trans rfl
  have hz1 : W.cell? ⟨g, 1, none⟩ = some (.int .i64 y1) := (blk_cell hc 1).trans rfl
  have hz2 : W.cell? ⟨g, 2, none⟩ = some (.int .i64 y2) := (blk_cell hc 2).trans rfl
  have HB := Aside0.mk (below_alloc (Below.refl W.heap.size W) (.cells #[.int .i64 n0, .int .i64 n1, .int .i64 n2, .int .i64 n3, .int .i64 n4, .int .i64 n5, .slice A6 l6.length c6] 64))
  have HR6 := Aside0.mk (Kd.C_below hr6 (below_alloc (Below.refl W.heap.size W) (.cells #[.int .i64 n0, .int .i64 n1, .int .i64 n2, .int .i64 n3, .int .i64 n4, .int .i64 n5, .slice A6 l6.length c6] 64)))
  clear hc hr6
  go_enter Try.func94, Try.ntmps94
  go_wp2_with (go_at_call 95; refine (impl_Row_matches.calls n0 n1 n2 n3 n4 n5 A6 c6 l6 y0 y1 y2 b _ ?hra hl6 HM.out).mono ?_; (case hra => repeat (first | exact HR6.out | (with_reducible refine Kd.C_drewN ?_ _) | (with_reducible refine Kd.C_drew ?_))); rintro e w' ⟨rfl, hb⟩; have HB2 := Aside0.mk (below_step (by repeat (first | exact HB.out | apply pw_below_drewN | apply below_drew1)) hb); clear hb)
  go_ret
  exact ⟨rfl, HB2.out⟩
set_option maxHeartbeats 2000000 in
set_option maxRecDepth 100000 in
theorem impl_rowFor.idx (k : Nat) (A0 : Option Addr) (c0 : Nat) (l0 : List (S64)) (y0 y1 y2 : Int) (g : Nat) (r : Int) (w : World) (hr0 : Kd.C k64 w A0 l0.length l0) (hc : w.heap[g]? = some (.cells #[.int .i64 y0, .int .i64 y1, .int .i64 y2] 25 (0, 0))) (h : impl_rowFor.l0 k l0 y0 y1 y2 0 = some r) :
    Calls Try.prog 93 #[.slice A0 l0.length c0, .func (.func 94) #[] #[.pointer (some ⟨g, 0, none⟩)]] w fun e w' => e = .returned (.int .i64 r) ∧ Below w.heap.size w w' := by
  have HR0 := Aside0.mk hr0
  have HC := Aside0.mk hc
  clear hr0 hc
  have HB := Aside0.mk (Below.refl w.heap.size w)
  have H' := Aside0.mk h
  clear h
  go_enter Try.func93, Try.ntmps93
  go_wp2
  go_loopg [8] k (fun kq v8 w' => ∃ (x8_1 : Int), v8 = .int .i64 x8_1 ∧ Aside0 (impl_rowFor.l0 kq l0 y0 y1 y2 x8_1 = some r) ∧ Aside0 (kq ≤ k) ∧ Aside0 (Below w.heap.size w w'))
  case atStart => exact ⟨(0), (by first | rfl | (simp; done)), H', ⟨Nat.le_refl _⟩, HB⟩
  case round =>
    clear H'
    clear HB
    obtain ⟨x8_1, rfl, HA, HK1, HB⟩ := hrel
    cases gk with
    | zero => exact absurd HA.out (by simp [impl_rowFor.l0])
    | succ k1 =>
      have H := HA.out
      clear HA
      simp only [impl_rowFor.l0] at H
      by_cases c4 : x8_1 < (l0.length : Int)
      · rw [if_pos c4] at H
        have c4b0 : decide (x8_1 < (l0.length : Int)) = true := decide_eq_true c4
        by_cases c5 : 0 ≤ x8_1
        · rw [if_pos c5] at H
          obtain ⟨ad, A6, c6, e207, hx0, hx1, hx2, hx3, hx4, hx5, hx6, hl6, hi6⟩ := at_T64 HR0.out x8_1 c5 c4
          cases e207
          replace hx0 := (HB.out.cell (World.block_lt_of_cell? w _ hx0)).trans hx0
          replace hx1 := (HB.out.cell (World.block_lt_of_cell? w _ hx1)).trans hx1
          replace hx2 := (HB.out.cell (World.block_lt_of_cell? w _ hx2)).trans hx2
          replace hx3 := (HB.out.cell (World.block_lt_of_cell? w _ hx3)).trans hx3
          replace hx4 := (HB.out.cell (World.block_lt_of_cell? w _ hx4)).trans hx4
          replace hx5 := (HB.out.cell (World.block_lt_of_cell? w _ hx5)).trans hx5
          replace hx6 := (HB.out.cell (World.block_lt_of_cell? w _ hx6)).trans hx6
          have HR6 := Aside0.mk (Kd.C_below hi6 HB.out)
          have HL6 := Aside0.mk hl6
          clear hi6 hl6
          have HCr := Aside0.mk (blk_below HC.out HB.out)
          replace c5 := eq_true c5
          replace c4 := eq_true c4
          replace H := Option.bind_eq_some_iff.mp H
          obtain ⟨t, A70, H⟩ := H
          replace H : (if t = true then (some x8_1) else (impl_rowFor.l0 k1 l0 y0 y1 y2 (wrap64 (x8_1 + 1)))) = some r := H
          have A7 := Aside0.mk A70
          clear A70
          cases t with
          | true =>
            have H1 : (some x8_1) = some r := by rw [if_pos rfl] at H; exact H
            obtain rfl := Option.some.inj H1
            clear H H1
            go_wp2_with (go_at_call 94; refine (impl_rowFor.clo _ _ _ _ _ _ A6 c6 _ y0 y1 y2 g true _ HR6.out HL6.out HCr.out A7.out).mono ?_; rintro e w' ⟨rfl, hb⟩; have HB2 := Aside0.mk (below_step HB.out hb); clear hb)
            go_ret
            exact ⟨rfl, HB2.out⟩
          | false =>
            have H1 : (impl_rowFor.l0 k1 l0 y0 y1 y2 (wrap64 (x8_1 + 1))) = some r := by rw [if_neg (show ¬ (false = true) by decide)] at H; exact H
            have H' := Aside0.mk H1
            clear H H1
            go_wp2_with (go_at_call 94; refine (impl_rowFor.clo _ _ _ _ _ _ A6 c6 _ y0 y1 y2 g false _ HR6.out HL6.out HCr.out A7.out).mono ?_; rintro e w' ⟨rfl, hb⟩; have HB2 := Aside0.mk (below_step HB.out hb); clear hb)
            go_roundg k1
            case measure => have := HK1.out; omega
            case rel => exact ⟨(wrap64 (x8_1 + 1)), (by first | rfl | (simp; done) | (simp [*]; done)), H', ⟨by have := HK1.out; omega⟩, HB2⟩
        · rw [if_neg c5] at H
          exact absurd H (by simp)
      · rw [if_neg c4] at H
        have c4b0 : decide (x8_1 < (l0.length : Int)) = false := decide_eq_false c4
        clear c4
        obtain rfl := Option.some.inj H
        go_wp2
        go_ret
        exact ⟨rfl, HB.out⟩
set_option maxHeartbeats 1000000 in
theorem impl_rowFor.calls (k : Nat) (A0 : Option Addr) (c0 : Nat) (l0 : List (S64)) (a1_0 : Int) (a1_1 : Int) (a1_2 : Int) (r : Int) (w : World) (hr0 : Kd.C k64 w A0 l0.length l0) (hc0 : l0.length ≤ c0) (h : impl_rowFor.f k l0 a1_0 a1_1 a1_2 = some r) :
    Calls Try.prog 65 #[.slice A0 l0.length c0, .agg #[.int .i64 a1_0, .int .i64 a1_1, .int .i64 a1_2]] w fun e w' => e = .returned (.int .i64 r) ∧ Below w.heap.size w w' := by
  have HR0 := Aside0.mk hr0
  have H := Aside0.mk h
  clear hr0 hc0 h
  have hu25 := Try.underlying25
  have hmf : ∀ (fn : Fn) (first cap : Array Value) (w : World), (Instr.makeFunc fn first cap).run Try.prog w = .ok (.func fn first cap) w := fun _ _ _ _ => rfl
  have HB := Aside0.mk (below_alloc (Below.refl w.heap.size w) (.cells #[.int .i64 a1_0, .int .i64 a1_1, .int .i64 a1_2] 25))
  have HC2 := Aside0.mk (Kd.C_below HR0.out HB.out)
  have HCL := Aside0.mk (heap_alloc_new w (.cells #[.int .i64 a1_0, .int .i64 a1_1, .int .i64 a1_2] 25))
  go_enter Try.func65, Try.ntmps65
  go_wp2_with (go_at_call 93; refine (impl_rowFor.idx k A0 c0 l0 a1_0 a1_1 a1_2 w.heap.size r _ ?hra ?hca H.out).mono ?_; (case hra => exact HC2.out); (case hca => exact HCL.out); rintro e w' ⟨rfl, hb⟩; have HB2 := Aside0.mk (below_step HB.out hb); clear hb)
  go_ret
  exact ⟨rfl, HB2.out⟩

end Go.Proofs.Ytlfhedmmlfpekaa.P
