/- Written by a program of this session (wip/p2) out of the translation: plain Lean functions, and that the calls of the Go functions come to what these say. Conditions: as each contract states. -/
import Derived.Test.YtjffblojognlbaaPx0
import Derived.Test.YtjffblojognlbaaPx6
namespace Go.Proofs.Ytjffblojognlbaa.P
open Go.RowKit Go.Proofs.YtjffblojognlbaaW.PrintWords Go.Proofs.YtjffblojognlbaaW.PrintLast Go.Proofs.YtjffblojognlbaaW.PrintMore
attribute [local go_sem] max2_int min2_int max_two min_two max_three min_three max_four min_four   -- for this text's walks alone
set_option linter.unusedVariables false
set_option linter.unusedSimpArgs false

/-! ### impl_hoseLoss: function 82 -/
def impl_hoseLoss.fac (k : Int) : Int := if k = 0 then 3 else if k = 1 then 20 else if k = 2 then 160 else 5000
def impl_hoseLoss.f (a0_0 : Int) (a0_1 : Int) (a1 : Int) : Option (Int) := if 0 ≤ a0_0 then (if a0_0 < 4 then (impl_upTo.f (wrap64 (wrap64 (wrap64 (impl_hoseLoss.fac a0_0 * a1) * a1) * a0_1)) 100000000) else none) else none
theorem impl_hoseLoss.calls (a0_0 : Int) (a0_1 : Int) (a1 : Int) (r : Int) (w : World) (h : impl_hoseLoss.f a0_0 a0_1 a1 = some r) :
  Calls Try.prog 82 #[.agg #[.int .i64 a0_0, .int .i64 a0_1], .int .i64 a1] w fun e w' => e = .returned (.int .i64 r) ∧ Below w.heap.size w w' := by
 have i0 : ∀ W : World, (Instr.index 98 (.agg #[.int .i64 3, .int .i64 20, .int .i64 160, .int .i64 5000]) (.int .i64 0)).run Try.prog W = .ok (.int .i64 3) W := fun _ => by kernel_rfl
 have i1 : ∀ W : World, (Instr.index 98 (.agg #[.int .i64 3, .int .i64 20, .int .i64 160, .int .i64 5000]) (.int .i64 1)).run Try.prog W = .ok (.int .i64 20) W := fun _ => by kernel_rfl
 have i2 : ∀ W : World, (Instr.index 98 (.agg #[.int .i64 3, .int .i64 20, .int .i64 160, .int .i64 5000]) (.int .i64 2)).run Try.prog W = .ok (.int .i64 160) W := fun _ => by kernel_rfl
 have i3 : ∀ W : World, (Instr.index 98 (.agg #[.int .i64 3, .int .i64 20, .int .i64 160, .int .i64 5000]) (.int .i64 3)).run Try.prog W = .ok (.int .i64 5000) W := fun _ => by kernel_rfl
 unfold impl_hoseLoss.f at h
 split at h
 case isFalse => exact absurd h (by simp)
 split at h
 case isFalse => exact absurd h (by simp)
 have hk : a0_0 = 0 ∨ a0_0 = 1 ∨ a0_0 = 2 ∨ a0_0 = 3 := by omega
 rcases hk with rfl | rfl | rfl | rfl
 · have h := Aside0.mk (show impl_upTo.f (wrap64 (wrap64 (wrap64 (3 * a1) * a1) * a0_1)) 100000000 = some r from h)
   go_enter Try.func82, Try.ntmps82
   go_wp2_with (go_at_call 59; (with_reducible refine (impl_upTo.calls _ _ r _ h.out).mono ?_); rintro e w' ⟨rfl, ⟨nd, rfl⟩⟩)
   go_ret
   exact ⟨rfl, by repeat (first | exact Below.refl _ _ | apply below_alloc | apply pw_below_drewN)⟩
 · have h := Aside0.mk (show impl_upTo.f (wrap64 (wrap64 (wrap64 (20 * a1) * a1) * a0_1)) 100000000 = some r from h)
   go_enter Try.func82, Try.ntmps82
   go_wp2_with (go_at_call 59; (with_reducible refine (impl_upTo.calls _ _ r _ h.out).mono ?_); rintro e w' ⟨rfl, ⟨nd, rfl⟩⟩)
   go_ret
   exact ⟨rfl, by repeat (first | exact Below.refl _ _ | apply below_alloc | apply pw_below_drewN)⟩
 · have h := Aside0.mk (show impl_upTo.f (wrap64 (wrap64 (wrap64 (160 * a1) * a1) * a0_1)) 100000000 = some r from h)
   go_enter Try.func82, Try.ntmps82
   go_wp2_with (go_at_call 59; (with_reducible refine (impl_upTo.calls _ _ r _ h.out).mono ?_); rintro e w' ⟨rfl, ⟨nd, rfl⟩⟩)
   go_ret
   exact ⟨rfl, by repeat (first | exact Below.refl _ _ | apply below_alloc | apply pw_below_drewN)⟩
 · have h := Aside0.mk (show impl_upTo.f (wrap64 (wrap64 (wrap64 (5000 * a1) * a1) * a0_1)) 100000000 = some r from h)
   go_enter Try.func82, Try.ntmps82
   go_wp2_with (go_at_call 59; (with_reducible refine (impl_upTo.calls _ _ r _ h.out).mono ?_); rintro e w' ⟨rfl, ⟨nd, rfl⟩⟩)
   go_ret
   exact ⟨rfl, by repeat (first | exact Below.refl _ _ | apply below_alloc | apply pw_below_drewN)⟩

end Go.Proofs.Ytjffblojognlbaa.P
