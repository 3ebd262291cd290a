/- Written by a program of this session (wip/p2) out of the translation: plain Lean functions, and that the calls of the Go functions come to what these say. Conditions: as each contract states. -/
import Derived.Test.YteinfbfaijjknaaQFnExactShareCrew5
namespace Go.Proofs.Yteinfbfaijjknaa.P
open Go.RowKit Go.Proofs.YteinfbfaijjknaaW.PrintWords Go.Proofs.YteinfbfaijjknaaW.PrintLast Go.Proofs.YteinfbfaijjknaaW.PrintMore
attribute [local go_sem] max2_int min2_int max_two min_two max_three min_three max_four min_four   -- for this text's walks alone
set_option linter.unusedVariables false
set_option linter.unusedSimpArgs false

/-! ### impl_ShareCrew: function 42 -/
def impl_ShareCrew.j0 : Nat → List (S26) → Int → Int → Int → Bool → Option ((List (S26)) × Bool)
  | 0, _, _, _, _, _ => none
  | k + 1, x0, x3, x10, x11, x52 => if x52 = true then (some (([] : List (S26)), false)) else ((impl_Appliance_72.f x0).bind fun t479 => (if 0 ≤ x10 then (if x10 < (t479.length : Int) then ((some (t479.set (x10 : Int).toNat (⟨(rd_T26 t479 x10).f0, (rd_T26 t479 x10).f1, (rd_T26 t479 x10).f2, wrap64 (((rd_T26 t479 x10).f3) - x3), (rd_T26 t479 x10).f4⟩ : S26) : List (S26))).bind fun y483 => (if 0 ≤ x11 then (if x11 < (t479.length : Int) then ((some (y483.set (x11 : Int).toNat (⟨(rd_T26 y483 x11).f0, (rd_T26 y483 x11).f1, (rd_T26 y483 x11).f2, wrap64 (((rd_T26 y483 x11).f3) + x3), (rd_T26 y483 x11).f4⟩ : S26) : List (S26))).bind fun y485 => ((impl_isFleet.f k y485).bind fun t486 => (if t486 = true then (some (y485, true)) else (some (([] : List (S26)), false))))) else (none)) else (none))) else (none)) else (none)))
def impl_ShareCrew.f (k : Nat) (l0 : List (S26)) (a1 : ByteArray) (a2 : ByteArray) (a3 : Int) : Option ((List (S26)) × Bool) := (impl_findAppliance.f k l0 a1).bind fun t473 => ((impl_findAppliance.f k l0 a2).bind fun t474 => ((impl_isFleet.f k l0).bind fun t475 => (if t475 = true then (if t473 < 0 then (impl_ShareCrew.j0 k l0 a3 t473 t474 true) else (if t474 < 0 then (impl_ShareCrew.j0 k l0 a3 t473 t474 true) else (if t473 = t474 then (impl_ShareCrew.j0 k l0 a3 t473 t474 true) else ((impl_inside.f a3 1 8).bind fun t476 => (if t476 = true then (if 0 ≤ t473 then (if t473 < (l0.length : Int) then (if 0 ≤ t474 then (if t474 < (l0.length : Int) then (impl_ShareCrew.j0 k l0 a3 t473 t474 (((rd_T26 l0 t473).f2) != ((rd_T26 l0 t474).f2))) else (none)) else (none)) else (none)) else (none)) else (impl_ShareCrew.j0 k l0 a3 t473 t474 true)))))) else (impl_ShareCrew.j0 k l0 a3 t473 t474 true))))
theorem impl_ShareCrew.mono_l : ∀ k, (∀ y0 y1 y2 y3 y4, LeO (impl_ShareCrew.j0 k y0 y1 y2 y3 y4) (impl_ShareCrew.j0 (k + 1) y0 y1 y2 y3 y4))
 | 0 => fun _ _ _ _ _ r h => by simp [impl_ShareCrew.j0] at h
 | k + 1 => by
  have ih0 := impl_ShareCrew.mono_l k
  · intro y0 y1 y2 y3 y4
    unfold impl_ShareCrew.j0
    repeat' first
    | (with_reducible exact ih0 _ _ _ _ _)
    | (with_reducible exact impl_findAppliance.mono _ _ _)
    | (with_reducible exact impl_isFleet.mono _ _)
    | (with_reducible exact LeO.refl _)
    | (with_reducible exact LeO.none _)
    | (with_reducible refine LeO.ite ?_ ?_)
    | (with_reducible refine LeO.bind ?_ (fun _ => ?_))
    | exact ih0 _ _ _ _ _
    | exact impl_findAppliance.mono _ _ _
    | exact impl_isFleet.mono _ _
    | exact LeO.none _
    | refine LeO.ite ?_ ?_
    | refine LeO.bind ?_ (fun _ => ?_)
theorem impl_ShareCrew.mono : ∀ a0 a1 a2 a3 k, LeO (impl_ShareCrew.f k a0 a1 a2 a3) (impl_ShareCrew.f (k + 1) a0 a1 a2 a3) := by
 intro a0 a1 a2 a3 k
 have ih0 := impl_ShareCrew.mono_l k
 unfold impl_ShareCrew.f
 repeat' first
  | (with_reducible exact ih0 _ _ _ _ _)
  | (with_reducible exact impl_findAppliance.mono _ _ _)
  | (with_reducible exact impl_isFleet.mono _ _)
  | (with_reducible exact LeO.refl _)
  | (with_reducible exact LeO.none _)
  | (with_reducible refine LeO.ite ?_ ?_)
  | (with_reducible refine LeO.bind ?_ (fun _ => ?_))
  | exact ih0 _ _ _ _ _
  | exact impl_findAppliance.mono _ _ _
  | exact impl_isFleet.mono _ _
  | exact LeO.none _
  | refine LeO.ite ?_ ?_
  | refine LeO.bind ?_ (fun _ => ?_)
def impl_ShareCrew.T2 : Bool × List (List Nat × List Nat) := (true, [([], []), ([0], [0]), ([1], [1]), ([2, 1], [2]), ([3], [3]), ([4, 3], [3, 4]), ([3, 5], [3, 5]), ([6, 3], [6]), ([7], [7]), ([8, 7], [7, 8]), ([7, 9], [7, 9]), ([10, 7], [10]), ([11], [11]), ([11], [11]), ([12, 13, 11], [11, 12, 13]), ([11, 14], [11, 14]), ([15, 11], [15]), ([16], [16]), ([17, 16, 16], [16, 17]), ([18, 16], [16, 18]), ([16, 19], [16, 19]), ([20, 18], [20]), ([21], [21]), ([21], [21]), ([22, 23, 21], [21, 22, 23]), ([24, 21], [21, 24]), ([25, 21], [21, 25]), ([21], [21]), ([21], [21]), ([27, 28, 21], [21, 27, 28]), ([29, 21], [21, 29]), ([30, 21], [21, 30]), ([26, 31, 21], [21, 26, 31]), ([21, 32], [21, 32])])
def impl_ShareCrew.B2 : List Nat := [0, 1, 3, 7, 15, 31, 63, 127, 255, 511, 1023, 2047, 4095, 4095, 16383, 32767, 65535, 131071, 262143, 524287, 1048575, 2097151, 4194303, 4194303, 16777215, 33554431, 67108863, 4194303, 4194303, 406847487, 943718399, 2017460223, 4294967295, 8589934591]
theorem impl_ShareCrew.tab2 : rtab .any (opsOf Try.f42 2) = impl_ShareCrew.T2 := by kernel_rfl
theorem impl_ShareCrew.bits2 : waitsOk impl_ShareCrew.T2.2 impl_ShareCrew.B2 = true := by kernel_rfl
set_option maxHeartbeats 8000000 in
set_option maxRecDepth 100000 in
theorem impl_ShareCrew.calls (k : Nat) (A0 : Option Addr) (c0 : Nat) (l0 : List (S26)) (a1 : ByteArray) (a2 : ByteArray) (a3 : Int) (r1 : List (S26)) (r2 : Bool) (w : World) (hr0 : Kd.C k26 w A0 l0.length l0) (hc0 : l0.length ≤ c0) (h : impl_ShareCrew.f k l0 a1 a2 a3 = some (r1, r2)) :
  Calls Try.prog 42 #[.slice A0 l0.length c0, .string a1, .string a2, .int .i64 a3] w fun e w' => ∃ v0_ : Value, e = .returned (.tuple #[v0_, .bool r2]) ∧ Kd.R k26 26 w' w.heap.size (fun _ => True) v0_ r1 ∧ Below w.heap.size w w' := by
 have HR0 := Aside0.mk hr0
 have HC0 := Aside0.mk hc0
 clear hr0 hc0
 have HB := Aside0.mk (Below.refl w.heap.size w)
 have H : ((impl_findAppliance.f k l0 a1).bind fun t473 => ((impl_findAppliance.f k l0 a2).bind fun t474 => ((impl_isFleet.f k l0).bind fun t475 => (if t475 = true then (if t473 < 0 then (impl_ShareCrew.j0 k l0 a3 t473 t474 true) else (if t474 < 0 then (impl_ShareCrew.j0 k l0 a3 t473 t474 true) else (if t473 = t474 then (impl_ShareCrew.j0 k l0 a3 t473 t474 true) else ((impl_inside.f a3 1 8).bind fun t476 => (if t476 = true then (if 0 ≤ t473 then (if t473 < (l0.length : Int) then (if 0 ≤ t474 then (if t474 < (l0.length : Int) then (impl_ShareCrew.j0 k l0 a3 t473 t474 (((rd_T26 l0 t473).f2) != ((rd_T26 l0 t474).f2))) else (none)) else (none)) else (none)) else (none)) else (impl_ShareCrew.j0 k l0 a3 t473 t474 true)))))) else (impl_ShareCrew.j0 k l0 a3 t473 t474 true))))) = some (r1, r2) := h
 clear h
 replace H := Option.bind_eq_some_iff.mp H
 obtain ⟨t473, A50, H⟩ := H
 replace H : ((impl_findAppliance.f k l0 a2).bind fun t474 => ((impl_isFleet.f k l0).bind fun t475 => (if t475 = true then (if t473 < 0 then (impl_ShareCrew.j0 k l0 a3 t473 t474 true) else (if t474 < 0 then (impl_ShareCrew.j0 k l0 a3 t473 t474 true) else (if t473 = t474 then (impl_ShareCrew.j0 k l0 a3 t473 t474 true) else ((impl_inside.f a3 1 8).bind fun t476 => (if t476 = true then (if 0 ≤ t473 then (if t473 < (l0.length : Int) then (if 0 ≤ t474 then (if t474 < (l0.length : Int) then (impl_ShareCrew.j0 k l0 a3 t473 t474 (((rd_T26 l0 t473).f2) != ((rd_T26 l0 t474).f2))) else (none)) else (none)) else (none)) else (none)) else (impl_ShareCrew.j0 k l0 a3 t473 t474 true)))))) else (impl_ShareCrew.j0 k l0 a3 t473 t474 true)))) = some (r1, r2) := H
 have A5 := Aside0.mk A50
 clear A50
 replace H := Option.bind_eq_some_iff.mp H
 obtain ⟨t474, A60, H⟩ := H
 replace H : ((impl_isFleet.f k l0).bind fun t475 => (if t475 = true then (if t473 < 0 then (impl_ShareCrew.j0 k l0 a3 t473 t474 true) else (if t474 < 0 then (impl_ShareCrew.j0 k l0 a3 t473 t474 true) else (if t473 = t474 then (impl_ShareCrew.j0 k l0 a3 t473 t474 true) else ((impl_inside.f a3 1 8).bind fun t476 => (if t476 = true then (if 0 ≤ t473 then (if t473 < (l0.length : Int) then (if 0 ≤ t474 then (if t474 < (l0.length : Int) then (impl_ShareCrew.j0 k l0 a3 t473 t474 (((rd_T26 l0 t473).f2) != ((rd_T26 l0 t474).f2))) else (none)) else (none)) else (none)) else (none)) else (impl_ShareCrew.j0 k l0 a3 t473 t474 true)))))) else (impl_ShareCrew.j0 k l0 a3 t473 t474 true))) = some (r1, r2) := H
 have A6 := Aside0.mk A60
 clear A60
 have HC7 := Aside0.mk H
 clear H
 go_enter Try.func42, Try.ntmps42
 go_upto_region 2 with (first | ((with_reducible refine gate_callee (f := 66) rfl ?_); refine goesL_ (some 15) rfl rfl Try.func66 (by kernel_rfl) rfl #[.slice A0 l0.length c0, .string a1] rfl (by (try simp only [List.map_toArray, List.map_cons, List.map_nil]); first | done | rfl) ?_; (with_reducible refine (impl_findAppliance.calls k _ _ l0 a1 t473 _ ?side1 ?side2 A5.out).mono ?_); (case side1 => repeat (first | exact HR0.out | (with_reducible refine Kd.C_alloc ?_ _) | (with_reducible refine Kd.C_drewN ?_ _) | (with_reducible refine Kd.C_drew ?_))); (case side2 => exact HC0.out); rintro e w8 ⟨rfl, hb⟩; refine ⟨_, rfl, ?_⟩; have n0_ := Aside0.mk (below_step (by repeat (first | (with_reducible first | exact HB.out | apply bA_ | apply bN_ | apply b1_) | exact HB.out)) hb); clear HB; have HB := n0_; clear n0_; (try clear hb); (try clear hb2); (try clear hk); (try clear hi)) | ((with_reducible refine gate_callee (f := 66) rfl ?_); refine goesL_ (some 18) rfl rfl Try.func66 (by kernel_rfl) rfl #[.slice A0 l0.length c0, .string a2] rfl (by (try simp only [List.map_toArray, List.map_cons, List.map_nil]); first | done | rfl) ?_; (with_reducible refine (impl_findAppliance.calls k _ _ l0 a2 t474 _ ?side1 ?side2 A6.out).mono ?_); (case side1 => repeat (first | exact (Kd.C_below HR0.out HB.out) | (with_reducible refine Kd.C_alloc ?_ _) | (with_reducible refine Kd.C_drewN ?_ _) | (with_reducible refine Kd.C_drew ?_))); (case side2 => exact HC0.out); rintro e w9 ⟨rfl, hb⟩; refine ⟨_, rfl, ?_⟩; have n0_ := Aside0.mk (below_step (by repeat (first | (with_reducible first | exact HB.out | apply bA_ | apply bN_ | apply b1_) | exact HB.out)) hb); clear HB; have HB := n0_; clear n0_; (try clear hb); (try clear hb2); (try clear hk); (try clear hi)))
 (try simp only [Act.put, List.setIfInBounds_toArray, List.set_cons_zero, List.set_cons_succ])
 go_cut [52] (fun v52 wc => ∃ (kq : Nat) (x52_6 : Bool), v52 = .bool x52_6 ∧ Aside0 (impl_ShareCrew.j0 kq l0 a3 t473 t474 x52_6 = some (r1, r2)) ∧ Aside0 (kq ≤ k) ∧ Aside0 (Below w.heap.size w wc))
 case first =>
  have H := HC7.out
  clear HC7
  replace H := Option.bind_eq_some_iff.mp H
  obtain ⟨t475, A100, H⟩ := H
  replace H : (if t475 = true then (if t473 < 0 then (impl_ShareCrew.j0 k l0 a3 t473 t474 true) else (if t474 < 0 then (impl_ShareCrew.j0 k l0 a3 t473 t474 true) else (if t473 = t474 then (impl_ShareCrew.j0 k l0 a3 t473 t474 true) else ((impl_inside.f a3 1 8).bind fun t476 => (if t476 = true then (if 0 ≤ t473 then (if t473 < (l0.length : Int) then (if 0 ≤ t474 then (if t474 < (l0.length : Int) then (impl_ShareCrew.j0 k l0 a3 t473 t474 (((rd_T26 l0 t473).f2) != ((rd_T26 l0 t474).f2))) else (none)) else (none)) else (none)) else (none)) else (impl_ShareCrew.j0 k l0 a3 t473 t474 true)))))) else (impl_ShareCrew.j0 k l0 a3 t473 t474 true)) = some (r1, r2) := H
  have A10 := Aside0.mk A100
  clear A100
  by_cases c11 : t475 = true
  case neg =>
   replace c11 := Bool.eq_false_iff.mpr c11
   subst c11
   have H1 : (impl_ShareCrew.j0 k l0 a3 t473 t474 true) = some (r1, r2) := by rw [if_neg (show ¬ (false = true) by decide)] at H; exact H
   clear H
   have H := H1
   clear H1
   have H' := Aside0.mk H
   clear H
   try go_wp2
   have n0_ := Aside0.mk (below_drew1 HB.out)
   clear HB
   have HB := n0_
   clear n0_
   refine start_ (n := 34) (S := fun w' => True) (ds := []) qa0_ (by kernel_rfl) rfl rfl trivial (fun hHeld => ?_); refine with_tabW impl_ShareCrew.tab2 impl_ShareCrew.bits2 (fun HT_ HW_ => ?_)
   generalize w9.drew = w31 at HB hHeld ⊢
   refine pure_ (i := 0) (N := some 19) (v := ?_) (a' := ?_) qa3_ rfl rfl (any_of HT_.out (by kernel_rfl)) (fun _ _ _ h => h) (Or.inl ⟨by rfl, ?_⟩) ?_ ?_
   rotate_left
   · intro w'
     go_simp
     with_reducible rfl
   rotate_left
   · simp only [Act.put, List.setIfInBounds_toArray, List.set_cons_zero, List.set_cons_succ, i64_w, i32_w]
     rfl
   refine one_ (i := 1) (N := some 20) qa6_ rfl rfl (one_of HT_.out (by kernel_rfl)) (by decide) (fun K hK => ?_)
   refine goes_ Try.func63 (by kernel_rfl) rfl #[.slice A0 l0.length c0] (by rfl) rfl rfl (by (try simp only [List.map_toArray, List.map_cons, List.map_nil]); first | done | rfl) ?_
   with_reducible refine (impl_isFleet.calls k _ _ l0 false _ ?side1 ?side2 A10.out).mono ?_
   (case side1 => repeat (first | exact (Kd.C_below HR0.out HB.out) | (with_reducible refine Kd.C_alloc ?_ _) | (with_reducible refine Kd.C_drewN ?_ _) | (with_reducible refine Kd.C_drew ?_)))
   (case side2 => exact HC0.out)
   rintro e w32 ⟨rfl, hb⟩
   refine ⟨_, rfl, ?_⟩
   have n0_ := Aside0.mk (below_step (by repeat (first | (with_reducible first | exact HB.out | apply bA_ | apply bN_ | apply b1_) | exact HB.out)) hb)
   clear HB
   have HB := n0_
   clear n0_
   (try clear hb)
   (try clear hb2)
   (try clear hk)
   (try clear hi)
   refine hK.out _ _ trivial (fun hHeld => ?_)
   clear hK K
   refine norm_ (a' := ?_) ?_ ?_
   rotate_left
   · show Act.put _ (some 20) _ = _
     simp only [Act.put, List.setIfInBounds_toArray, List.set_cons_zero, List.set_cons_succ, i64_w, i32_w]
     rfl
   refine pure_ (i := 2) (N := some 21) (v := ?_) (a' := ?_) qa9_ rfl rfl (any_of HT_.out (by kernel_rfl)) (fun _ _ _ h => h) (Or.inl ⟨by rfl, ?_⟩) ?_ ?_
   rotate_left
   · intro w'
     go_simp
     with_reducible rfl
   rotate_left
   · simp only [Act.put, List.setIfInBounds_toArray, List.set_cons_zero, List.set_cons_succ, i64_w, i32_w]
     rfl
   refine pure_ (i := 3) (N := some 22) (v := ?_) (a' := ?_) qa15_ rfl rfl (any_of HT_.out (by kernel_rfl)) (fun _ _ _ h => h) (Or.inl ⟨by rfl, ?_⟩) ?_ ?_
   rotate_left
   · intro w'
     go_simp
     with_reducible rfl
   rotate_left
   · simp only [Act.put, List.setIfInBounds_toArray, List.set_cons_zero, List.set_cons_succ, i64_w, i32_w]
     rfl
   refine pure_ (i := 4) (N := some 23) (v := undef) (a' := ?_) qa17_ rfl rfl (any_of HT_.out (by kernel_rfl)) (fun _ _ _ h => h) (Or.inr ⟨by rfl, rfl⟩) ?_ ?_
   rotate_left
   · simp only [Act.put, List.setIfInBounds_toArray, List.set_cons_zero, List.set_cons_succ, i64_w, i32_w]
     rfl
   refine pure_ (i := 5) (N := some 24) (v := undef) (a' := ?_) qa19_ rfl rfl (any_of HT_.out (by kernel_rfl)) (fun _ _ _ h => h) (Or.inr ⟨by rfl, rfl⟩) ?_ ?_
   rotate_left
   · simp only [Act.put, List.setIfInBounds_toArray, List.set_cons_zero, List.set_cons_succ, i64_w, i32_w]
     rfl
   refine pure_ (i := 6) (N := some 25) (v := ?_) (a' := ?_) qa21_ rfl rfl (any_of HT_.out (by kernel_rfl)) (fun _ _ _ h => h) (Or.inl ⟨by rfl, ?_⟩) ?_ ?_
   rotate_left
   · intro w'
     go_simp
     with_reducible rfl
   rotate_left
   · simp only [Act.put, List.setIfInBounds_toArray, List.set_cons_zero, List.set_cons_succ, i64_w, i32_w]
     rfl
   refine pure_ (i := 7) (N := some 26) (v := ?_) (a' := ?_) qa24_ rfl rfl (any_of HT_.out (by kernel_rfl)) (fun _ _ _ h => h) (Or.inl ⟨by rfl, ?_⟩) ?_ ?_
   rotate_left
   · intro w'
     go_simp
     with_reducible rfl
   rotate_left
   · simp only [Act.put, List.setIfInBounds_toArray, List.set_cons_zero, List.set_cons_succ, i64_w, i32_w]
     rfl
   refine pure_ (i := 8) (N := some 27) (v := undef) (a' := ?_) qa28_ rfl rfl (any_of HT_.out (by kernel_rfl)) (fun _ _ _ h => h) (Or.inr ⟨by rfl, rfl⟩) ?_ ?_
   rotate_left
   · simp only [Act.put, List.setIfInBounds_toArray, List.set_cons_zero, List.set_cons_succ, i64_w, i32_w]
     rfl
   refine pure_ (i := 9) (N := some 28) (v := undef) (a' := ?_) qa31_ rfl rfl (any_of HT_.out (by kernel_rfl)) (fun _ _ _ h => h) (Or.inr ⟨by rfl, rfl⟩) ?_ ?_
   rotate_left
   · simp only [Act.put, List.setIfInBounds_toArray, List.set_cons_zero, List.set_cons_succ, i64_w, i32_w]
     rfl
   refine pure_ (i := 10) (N := some 29) (v := ?_) (a' := ?_) qa34_ rfl rfl (any_of HT_.out (by kernel_rfl)) (fun _ _ _ h => h) (Or.inl ⟨by rfl, ?_⟩) ?_ ?_
   rotate_left
   · intro w'
     go_simp
     with_reducible rfl
   rotate_left
   · simp only [Act.put, List.setIfInBounds_toArray, List.set_cons_zero, List.set_cons_succ, i64_w, i32_w]
     rfl
   refine pure_ (i := 11) (N := some 30) (v := ?_) (a' := ?_) qa37_ rfl rfl (any_of HT_.out (by kernel_rfl)) (fun _ _ _ h => h) (Or.inl ⟨by rfl, ?_⟩) ?_ ?_
   rotate_left
   · intro w'
     go_simp
     with_reducible rfl
   rotate_left
   · simp only [Act.put, List.setIfInBounds_toArray, List.set_cons_zero, List.set_cons_succ, i64_w, i32_w]
     rfl
   refine pure_ (i := 12) (N := some 31) (v := undef) (a' := ?_) qa40_ rfl rfl (any_of HT_.out (by kernel_rfl)) (fun _ _ _ h => h) (Or.inr ⟨by rfl, rfl⟩) ?_ ?_
   rotate_left
   · simp only [Act.put, List.setIfInBounds_toArray, List.set_cons_zero, List.set_cons_succ, i64_w, i32_w]
     rfl
   refine pure_ (i := 13) (N := some 32) (v := undef) (a' := ?_) qa42_ rfl rfl (any_of HT_.out (by kernel_rfl)) (fun _ _ _ h => h) (Or.inr ⟨by rfl, rfl⟩) ?_ ?_
   rotate_left
   · simp only [Act.put, List.setIfInBounds_toArray, List.set_cons_zero, List.set_cons_succ, i64_w, i32_w]
     rfl
   refine pure_ (i := 14) (N := some 33) (v := undef) (a' := ?_) qa44_ rfl rfl (any_of HT_.out (by kernel_rfl)) (fun _ _ _ h => h) (Or.inr ⟨by rfl, rfl⟩) ?_ ?_
   rotate_left
   · simp only [Act.put, List.setIfInBounds_toArray, List.set_cons_zero, List.set_cons_succ, i64_w, i32_w]
     rfl
   refine pure_ (i := 15) (N := some 34) (v := ?_) (a' := ?_) qa46_ rfl rfl (any_of HT_.out (by kernel_rfl)) (fun _ _ _ h => h) (Or.inl ⟨by rfl, ?_⟩) ?_ ?_
   rotate_left
   · intro w'
     go_simp
     with_reducible rfl
   rotate_left
   · simp only [Act.put, List.setIfInBounds_toArray, List.set_cons_zero, List.set_cons_succ, i64_w, i32_w]
     rfl
   refine pure_ (i := 16) (N := some 35) (v := ?_) (a' := ?_) qa48_ rfl rfl (any_of HT_.out (by kernel_rfl)) (fun _ _ _ h => h) (Or.inl ⟨by rfl, ?_⟩) ?_ ?_
   rotate_left
   · intro w'
     go_simp
     with_reducible rfl
   rotate_left
   · simp only [Act.put, List.setIfInBounds_toArray, List.set_cons_zero, List.set_cons_succ, i64_w, i32_w]
     rfl
   refine pure_ (i := 17) (N := some 36) (v := undef) (a' := ?_) qa50_ rfl rfl (any_of HT_.out (by kernel_rfl)) (fun _ _ _ h => h) (Or.inr ⟨by rfl, rfl⟩) ?_ ?_
   rotate_left
   · simp only [Act.put, List.setIfInBounds_toArray, List.set_cons_zero, List.set_cons_succ, i64_w, i32_w]
     rfl
   refine pure_ (i := 18) (N := some 37) (v := undef) (a' := ?_) qa51_ rfl rfl (any_of HT_.out (by kernel_rfl)) (fun _ _ _ h => h) (Or.inr ⟨by rfl, rfl⟩) ?_ ?_
   rotate_left
   · simp only [Act.put, List.setIfInBounds_toArray, List.set_cons_zero, List.set_cons_succ, i64_w, i32_w]
     rfl
   refine pure_ (i := 19) (N := some 38) (v := undef) (a' := ?_) qa52_ rfl rfl (any_of HT_.out (by kernel_rfl)) (fun _ _ _ h => h) (Or.inr ⟨by rfl, rfl⟩) ?_ ?_
   rotate_left
   · simp only [Act.put, List.setIfInBounds_toArray, List.set_cons_zero, List.set_cons_succ, i64_w, i32_w]
     rfl
   refine pure_ (i := 20) (N := some 39) (v := ?_) (a' := ?_) qa53_ rfl rfl (any_of HT_.out (by kernel_rfl)) (fun _ _ _ h => h) (Or.inl ⟨by rfl, ?_⟩) ?_ ?_
   rotate_left
   · intro w'
     go_simp
     with_reducible rfl
   rotate_left
   · simp only [Act.put, List.setIfInBounds_toArray, List.set_cons_zero, List.set_cons_succ, i64_w, i32_w]
     rfl
   refine pure_ (i := 21) (N := some 40) (v := ?_) (a' := ?_) qa54_ rfl rfl (any_of HT_.out (by kernel_rfl)) (fun _ _ _ h => h) (Or.inl ⟨by rfl, ?_⟩) ?_ ?_
   rotate_left
   · intro w'
     go_simp
     with_reducible rfl
   rotate_left
   · simp only [Act.put, List.setIfInBounds_toArray, List.set_cons_zero, List.set_cons_succ, i64_w, i32_w]
     rfl
   refine pure_ (i := 22) (N := some 41) (v := undef) (a' := ?_) qa55_ rfl rfl (any_of HT_.out (by kernel_rfl)) (fun _ _ _ h => h) (Or.inr ⟨by rfl, rfl⟩) ?_ ?_
   rotate_left
   · simp only [Act.put, List.setIfInBounds_toArray, List.set_cons_zero, List.set_cons_succ, i64_w, i32_w]
     rfl
   refine pure_ (i := 23) (N := some 42) (v := undef) (a' := ?_) qa56_ rfl rfl (any_of HT_.out (by kernel_rfl)) (fun _ _ _ h => h) (Or.inr ⟨by rfl, rfl⟩) ?_ ?_
   rotate_left
   · simp only [Act.put, List.setIfInBounds_toArray, List.set_cons_zero, List.set_cons_succ, i64_w, i32_w]
     rfl
   refine pure_ (i := 24) (N := some 43) (v := undef) (a' := ?_) qa57_ rfl rfl (any_of HT_.out (by kernel_rfl)) (fun _ _ _ h => h) (Or.inr ⟨by rfl, rfl⟩) ?_ ?_
   rotate_left
   · simp only [Act.put, List.setIfInBounds_toArray, List.set_cons_zero, List.set_cons_succ, i64_w, i32_w]
     rfl
   refine pure_ (i := 25) (N := some 44) (v := undef) (a' := ?_) qa58_ rfl rfl (any_of HT_.out (by kernel_rfl)) (fun _ _ _ h => h) (Or.inr ⟨by rfl, rfl⟩) ?_ ?_
   rotate_left
   · simp only [Act.put, List.setIfInBounds_toArray, List.set_cons_zero, List.set_cons_succ, i64_w, i32_w]
     rfl
   refine pure_ (i := 26) (N := some 45) (v := undef) (a' := ?_) qa63_ rfl rfl (any_of HT_.out (by kernel_rfl)) (fun _ _ _ h => h) (Or.inr ⟨by rfl, rfl⟩) ?_ ?_
   rotate_left
   · simp only [Act.put, List.setIfInBounds_toArray, List.set_cons_zero, List.set_cons_succ, i64_w, i32_w]
     rfl
   refine pure_ (i := 27) (N := some 46) (v := undef) (a' := ?_) qa64_ rfl rfl (any_of HT_.out (by kernel_rfl)) (fun _ _ _ h => h) (Or.inr ⟨by rfl, rfl⟩) ?_ ?_
   rotate_left
   · simp only [Act.put, List.setIfInBounds_toArray, List.set_cons_zero, List.set_cons_succ, i64_w, i32_w]
     rfl
   refine pure_ (i := 28) (N := some 47) (v := undef) (a' := ?_) qa65_ rfl rfl (any_of HT_.out (by kernel_rfl)) (fun _ _ _ h => h) (Or.inr ⟨by rfl, rfl⟩) ?_ ?_
   rotate_left
   · simp only [Act.put, List.setIfInBounds_toArray, List.set_cons_zero, List.set_cons_succ, i64_w, i32_w]
     rfl
   refine pure_ (i := 29) (N := some 48) (v := undef) (a' := ?_) qa66_ rfl rfl (any_of HT_.out (by kernel_rfl)) (fun _ _ _ h => h) (Or.inr ⟨by rfl, rfl⟩) ?_ ?_
   rotate_left
   · simp only [Act.put, List.setIfInBounds_toArray, List.set_cons_zero, List.set_cons_succ, i64_w, i32_w]
     rfl
   refine pure_ (i := 30) (N := some 49) (v := undef) (a' := ?_) qa67_ rfl rfl (any_of HT_.out (by kernel_rfl)) (fun _ _ _ h => h) (Or.inr ⟨by rfl, rfl⟩) ?_ ?_
   rotate_left
   · simp only [Act.put, List.setIfInBounds_toArray, List.set_cons_zero, List.set_cons_succ, i64_w, i32_w]
     rfl
   refine pure_ (i := 31) (N := some 50) (v := undef) (a' := ?_) qa68_ rfl rfl (any_of HT_.out (by kernel_rfl)) (fun _ _ _ h => h) (Or.inr ⟨by rfl, rfl⟩) ?_ ?_
   rotate_left
   · simp only [Act.put, List.setIfInBounds_toArray, List.set_cons_zero, List.set_cons_succ, i64_w, i32_w]
     rfl
   refine pure_ (i := 32) (N := some 51) (v := undef) (a' := ?_) qa69_ rfl rfl (any_of HT_.out (by kernel_rfl)) (fun _ _ _ h => h) (Or.inr ⟨by rfl, rfl⟩) ?_ ?_
   rotate_left
   · simp only [Act.put, List.setIfInBounds_toArray, List.set_cons_zero, List.set_cons_succ, i64_w, i32_w]
     rfl
   refine pure_ (i := 33) (N := some 52) (v := ?_) (a' := ?_) qa70_ rfl rfl (any_of HT_.out (by kernel_rfl)) (fun _ _ _ h => h) (Or.inl ⟨by rfl, ?_⟩) ?_ ?_
   rotate_left
   · intro w'
     go_simp
     with_reducible rfl
   rotate_left
   · simp only [Act.put, List.setIfInBounds_toArray, List.set_cons_zero, List.set_cons_succ, i64_w, i32_w]
     rfl
   refine done_ (done_of HT_.out (by kernel_rfl)) ?_
   try go_wp2
   go_meet
   case rel => exact ⟨_, (true), (by first | rfl | (simp; done) | (simp [*]; done)), H', ⟨by first | omega | exact Nat.le_refl _⟩, ⟨by repeat (first | (with_reducible first | exact HB.out | apply bA_ | apply bN_ | apply b1_) | exact HB.out)⟩⟩
  subst c11
  have H1 : (if t473 < 0 then (impl_ShareCrew.j0 k l0 a3 t473 t474 true) else (if t474 < 0 then (impl_ShareCrew.j0 k l0 a3 t473 t474 true) else (if t473 = t474 then (impl_ShareCrew.j0 k l0 a3 t473 t474 true) else ((impl_inside.f a3 1 8).bind fun t476 => (if t476 = true then (if 0 ≤ t473 then (if t473 < (l0.length : Int) then (if 0 ≤ t474 then (if t474 < (l0.length : Int) then (impl_ShareCrew.j0 k l0 a3 t473 t474 (((rd_T26 l0 t473).f2) != ((rd_T26 l0 t474).f2))) else (none)) else (none)) else (none)) else (none)) else (impl_ShareCrew.j0 k l0 a3 t473 t474 true)))))) = some (r1, r2) := by rw [if_pos rfl] at H; exact H
  clear H
  have H := H1
  clear H1
  by_cases c12 : t473 < 0
  case neg =>
   rw [if_neg c12] at H
   have c12b0 : decide (t473 < 0) = false := decide_eq_false c12
   clear c12
   (first | rw [c12b0] | (simp only [i64_w, i32_w]; rw [c12b0]) | skip)
   by_cases c15 : t474 < 0
   case neg =>
    rw [if_neg c15] at H
    have c15b0 : decide (t474 < 0) = false := decide_eq_false c15
    clear c15
    by_cases c18 : t473 = t474
    case neg =>
     rw [if_neg c18] at H
     have c18b0 : (t473 == t474) = false := beq_eq_false_iff_ne.mpr c18
     have c18b1 : (t473 != t474) = true := bne_iff_ne.mpr c18
     replace H := Option.bind_eq_some_iff.mp H
     obtain ⟨t476, A210, H⟩ := H
     replace H : (if t476 = true then (if 0 ≤ t473 then (if t473 < (l0.length : Int) then (if 0 ≤ t474 then (if t474 < (l0.length : Int) then (impl_ShareCrew.j0 k l0 a3 t473 t474 (((rd_T26 l0 t473).f2) != ((rd_T26 l0 t474).f2))) else (none)) else (none)) else (none)) else (none)) else (impl_ShareCrew.j0 k l0 a3 t473 t474 true)) = some (r1, r2) := H
     have A21 := Aside0.mk A210
     clear A210
     by_cases c22 : t476 = true
     case neg =>
      replace c22 := Bool.eq_false_iff.mpr c22
      subst c22
      have H1 : (impl_ShareCrew.j0 k l0 a3 t473 t474 true) = some (r1, r2) := by rw [if_neg (show ¬ (false = true) by decide)] at H; exact H
      clear H
      have H := H1
      clear H1
      have H' := Aside0.mk H
      clear H
      try go_wp2
      have n0_ := Aside0.mk (below_drew1 HB.out)
      clear HB
      have HB := n0_
      clear n0_
      refine start_ (n := 34) (S := fun w' => True) (ds := []) qa0_ (by kernel_rfl) rfl rfl trivial (fun hHeld => ?_); refine with_tabW impl_ShareCrew.tab2 impl_ShareCrew.bits2 (fun HT_ HW_ => ?_)
      generalize w9.drew = w29 at HB hHeld ⊢
      refine pure_ (i := 0) (N := some 19) (v := ?_) (a' := ?_) qa3_ rfl rfl (any_of HT_.out (by kernel_rfl)) (fun _ _ _ h => h) (Or.inl ⟨by rfl, ?_⟩) ?_ ?_
      rotate_left
      · intro w'
        go_simp
        with_reducible rfl
      rotate_left
      · simp only [Act.put, List.setIfInBounds_toArray, List.set_cons_zero, List.set_cons_succ, i64_w, i32_w]
        rfl
      refine one_ (i := 1) (N := some 20) qa6_ rfl rfl (one_of HT_.out (by kernel_rfl)) (by decide) (fun K hK => ?_)
      refine goes_ Try.func63 (by kernel_rfl) rfl #[.slice A0 l0.length c0] (by rfl) rfl rfl (by (try simp only [List.map_toArray, List.map_cons, List.map_nil]); first | done | rfl) ?_
      with_reducible refine (impl_isFleet.calls k _ _ l0 true _ ?side1 ?side2 A10.out).mono ?_
      (case side1 => repeat (first | exact (Kd.C_below HR0.out HB.out) | (with_reducible refine Kd.C_alloc ?_ _) | (with_reducible refine Kd.C_drewN ?_ _) | (with_reducible refine Kd.C_drew ?_)))
      (case side2 => exact HC0.out)
      rintro e w30 ⟨rfl, hb⟩
      refine ⟨_, rfl, ?_⟩
      have n0_ := Aside0.mk (below_step (by repeat (first | (with_reducible first | exact HB.out | apply bA_ | apply bN_ | apply b1_) | exact HB.out)) hb)
      clear HB
      have HB := n0_
      clear n0_
      (try clear hb)
      (try clear hb2)
      (try clear hk)
      (try clear hi)
      refine hK.out _ _ trivial (fun hHeld => ?_)
      clear hK K
      refine norm_ (a' := ?_) ?_ ?_
      rotate_left
      · show Act.put _ (some 20) _ = _
        simp only [Act.put, List.setIfInBounds_toArray, List.set_cons_zero, List.set_cons_succ, i64_w, i32_w]
        rfl
      refine pure_ (i := 2) (N := some 21) (v := ?_) (a' := ?_) qa9_ rfl rfl (any_of HT_.out (by kernel_rfl)) (fun _ _ _ h => h) (Or.inl ⟨by rfl, ?_⟩) ?_ ?_
      rotate_left
      · intro w'
        go_simp
        with_reducible rfl
      rotate_left
      · simp only [Act.put, List.setIfInBounds_toArray, List.set_cons_zero, List.set_cons_succ, i64_w, i32_w]
        rfl
      refine pure_ (i := 3) (N := some 22) (v := ?_) (a' := ?_) qa15_ rfl rfl (any_of HT_.out (by kernel_rfl)) (fun _ _ _ h => h) (Or.inl ⟨by rfl, ?_⟩) ?_ ?_
      rotate_left
      · intro w'
        go_simp
        with_reducible rfl
      rotate_left
      · simp only [Act.put, List.setIfInBounds_toArray, List.set_cons_zero, List.set_cons_succ, i64_w, i32_w]
        rfl
      refine pure_ (i := 4) (N := some 23) (v := ?_) (a' := ?_) qa17_ rfl rfl (any_of HT_.out (by kernel_rfl)) (fun _ _ _ h => h) (Or.inl ⟨by rfl, ?_⟩) ?_ ?_
      rotate_left
      · intro w'
        go_simp
        with_reducible rfl
      rotate_left
      · simp only [Act.put, List.setIfInBounds_toArray, List.set_cons_zero, List.set_cons_succ, i64_w, i32_w]
        rfl
      refine pure_ (i := 5) (N := some 24) (v := ?_) (a' := ?_) qa19_ rfl rfl (any_of HT_.out (by kernel_rfl)) (fun _ _ _ h => h) (Or.inl ⟨by rfl, ?_⟩) ?_ ?_
      rotate_left
      · intro w'
        go_simp
        with_reducible rfl
      rotate_left
      · simp only [Act.put, List.setIfInBounds_toArray, List.set_cons_zero, List.set_cons_succ, i64_w, i32_w]
        rfl
      refine pure_ (i := 6) (N := some 25) (v := ?_) (a' := ?_) qa21_ rfl rfl (any_of HT_.out (by kernel_rfl)) (fun _ _ _ h => h) (Or.inl ⟨by rfl, ?_⟩) ?_ ?_
      rotate_left
      · intro w'
        go_simp
        with_reducible rfl
      rotate_left
      · simp only [Act.put, List.setIfInBounds_toArray, List.set_cons_zero, List.set_cons_succ, i64_w, i32_w]
        rfl
      refine pure_ (i := 7) (N := some 26) (v := ?_) (a' := ?_) qa24_ rfl rfl (any_of HT_.out (by kernel_rfl)) (fun _ _ _ h => h) (Or.inl ⟨by rfl, ?_⟩) ?_ ?_
      rotate_left
      · intro w'
        go_simp
        with_reducible rfl
      rotate_left
      · simp only [Act.put, List.setIfInBounds_toArray, List.set_cons_zero, List.set_cons_succ, i64_w, i32_w]
        rfl
      refine pure_ (i := 8) (N := some 27) (v := ?_) (a' := ?_) qa28_ rfl rfl (any_of HT_.out (by kernel_rfl)) (fun _ _ _ h => h) (Or.inl ⟨by rfl, ?_⟩) ?_ ?_
      rotate_left
      · intro w'
        go_simp
        with_reducible rfl
      rotate_left
      · simp only [Act.put, List.setIfInBounds_toArray, List.set_cons_zero, List.set_cons_succ, i64_w, i32_w]
        rfl
      refine pure_ (i := 9) (N := some 28) (v := ?_) (a' := ?_) qa31_ rfl rfl (any_of HT_.out (by kernel_rfl)) (fun _ _ _ h => h) (Or.inl ⟨by rfl, ?_⟩) ?_ ?_
      rotate_left
      · intro w'
        go_simp
        with_reducible rfl
      rotate_left
      · simp only [Act.put, List.setIfInBounds_toArray, List.set_cons_zero, List.set_cons_succ, i64_w, i32_w]
        rfl
      refine pure_ (i := 10) (N := some 29) (v := ?_) (a' := ?_) qa34_ rfl rfl (any_of HT_.out (by kernel_rfl)) (fun _ _ _ h => h) (Or.inl ⟨by rfl, ?_⟩) ?_ ?_
      rotate_left
      · intro w'
        go_simp
        with_reducible rfl
      rotate_left
      · simp only [Act.put, List.setIfInBounds_toArray, List.set_cons_zero, List.set_cons_succ, i64_w, i32_w]
        rfl
      refine pure_ (i := 11) (N := some 30) (v := ?_) (a' := ?_) qa37_ rfl rfl (any_of HT_.out (by kernel_rfl)) (fun _ _ _ h => h) (Or.inl ⟨by rfl, ?_⟩) ?_ ?_
      rotate_left
      · intro w'
        go_simp
        with_reducible rfl
      rotate_left
      · simp only [Act.put, List.setIfInBounds_toArray, List.set_cons_zero, List.set_cons_succ, i64_w, i32_w]
        rfl
      refine pure_ (i := 12) (N := some 31) (v := ?_) (a' := ?_) qa40_ rfl rfl (any_of HT_.out (by kernel_rfl)) (fun _ _ _ h => h) (Or.inl ⟨by rfl, ?_⟩) ?_ ?_
      rotate_left
      · intro w'
        go_simp
        with_reducible rfl
      rotate_left
      · simp only [Act.put, List.setIfInBounds_toArray, List.set_cons_zero, List.set_cons_succ, i64_w, i32_w]
        rfl
      refine pure_ (i := 13) (N := some 32) (v := ?_) (a' := ?_) qa42_ rfl rfl (any_of HT_.out (by kernel_rfl)) (fun _ _ _ h => h) (Or.inl ⟨by rfl, ?_⟩) ?_ ?_
      rotate_left
      · intro w'
        go_simp
        with_reducible rfl
      rotate_left
      · simp only [Act.put, List.setIfInBounds_toArray, List.set_cons_zero, List.set_cons_succ, i64_w, i32_w]
        rfl
      refine pure_ (i := 14) (N := some 33) (v := ?_) (a' := ?_) qa44_ rfl rfl (any_of HT_.out (by kernel_rfl)) (fun _ _ _ h => h) (Or.inl ⟨by rfl, ?_⟩) ?_ ?_
      rotate_left
      · intro w'
        go_simp
        with_reducible rfl
      rotate_left
      · simp only [Act.put, List.setIfInBounds_toArray, List.set_cons_zero, List.set_cons_succ, i64_w, i32_w]
        rfl
      refine pure_ (i := 15) (N := some 34) (v := ?_) (a' := ?_) qa46_ rfl rfl (any_of HT_.out (by kernel_rfl)) (fun _ _ _ h => h) (Or.inl ⟨by rfl, ?_⟩) ?_ ?_
      rotate_left
      · intro w'
        go_simp
        with_reducible rfl
      rotate_left
      · simp only [Act.put, List.setIfInBounds_toArray, List.set_cons_zero, List.set_cons_succ, i64_w, i32_w]
        rfl
      refine pure_ (i := 16) (N := some 35) (v := ?_) (a' := ?_) qa48_ rfl rfl (any_of HT_.out (by kernel_rfl)) (fun _ _ _ h => h) (Or.inl ⟨by rfl, ?_⟩) ?_ ?_
      rotate_left
      · intro w'
        go_simp
        with_reducible rfl
      rotate_left
      · simp only [Act.put, List.setIfInBounds_toArray, List.set_cons_zero, List.set_cons_succ, i64_w, i32_w]
        rfl
      refine pure_ (i := 17) (N := some 36) (v := ?_) (a' := ?_) qa50_ rfl rfl (any_of HT_.out (by kernel_rfl)) (fun _ _ _ h => h) (Or.inl ⟨by rfl, ?_⟩) ?_ ?_
      rotate_left
      · intro w'
        go_simp
        with_reducible rfl
      rotate_left
      · simp only [Act.put, List.setIfInBounds_toArray, List.set_cons_zero, List.set_cons_succ, i64_w, i32_w]
        rfl
      refine one_ (i := 18) (N := some 37) qa51_ rfl rfl (one_of HT_.out (by kernel_rfl)) (by decide) (fun K hK => ?_)
      refine goes_ Try.func71 (by kernel_rfl) rfl #[.int .i64 a3, .int .i64 1, .int .i64 8] (by rfl) rfl rfl (by (try simp only [List.map_toArray, List.map_cons, List.map_nil]); first | done | rfl) ?_
      with_reducible refine (impl_inside.calls a3 1 8 false _ A21.out).mono ?_
      rintro e w' ⟨rfl, ⟨nd, rfl⟩⟩
      refine ⟨_, rfl, ?_⟩
      refine hK.out _ _ trivial (fun hHeld => ?_)
      clear hK K
      refine norm_ (a' := ?_) ?_ ?_
      rotate_left
      · show Act.put _ (some 37) _ = _
        simp only [Act.put, List.setIfInBounds_toArray, List.set_cons_zero, List.set_cons_succ, i64_w, i32_w]
        rfl
      refine pure_ (i := 19) (N := some 38) (v := ?_) (a' := ?_) qa52_ rfl rfl (any_of HT_.out (by kernel_rfl)) (fun _ _ _ h => h) (Or.inl ⟨by rfl, ?_⟩) ?_ ?_
      rotate_left
      · intro w'
        go_simp
        with_reducible rfl
      rotate_left
      · simp only [Act.put, List.setIfInBounds_toArray, List.set_cons_zero, List.set_cons_succ, i64_w, i32_w]
        rfl
      refine pure_ (i := 20) (N := some 39) (v := ?_) (a' := ?_) qa53_ rfl rfl (any_of HT_.out (by kernel_rfl)) (fun _ _ _ h => h) (Or.inl ⟨by rfl, ?_⟩) ?_ ?_
      rotate_left
      · intro w'
        go_simp
        with_reducible rfl
      rotate_left
      · simp only [Act.put, List.setIfInBounds_toArray, List.set_cons_zero, List.set_cons_succ, i64_w, i32_w]
        rfl
      refine pure_ (i := 21) (N := some 40) (v := ?_) (a' := ?_) qa54_ rfl rfl (any_of HT_.out (by kernel_rfl)) (fun _ _ _ h => h) (Or.inl ⟨by rfl, ?_⟩) ?_ ?_
      rotate_left
      · intro w'
        go_simp
        with_reducible rfl
      rotate_left
      · simp only [Act.put, List.setIfInBounds_toArray, List.set_cons_zero, List.set_cons_succ, i64_w, i32_w]
        rfl
      refine pure_ (i := 22) (N := some 41) (v := undef) (a' := ?_) qa55_ rfl rfl (any_of HT_.out (by kernel_rfl)) (fun _ _ _ h => h) (Or.inr ⟨by rfl, rfl⟩) ?_ ?_
      rotate_left
      · simp only [Act.put, List.setIfInBounds_toArray, List.set_cons_zero, List.set_cons_succ, i64_w, i32_w]
        rfl
      refine pure_ (i := 23) (N := some 42) (v := undef) (a' := ?_) qa56_ rfl rfl (any_of HT_.out (by kernel_rfl)) (fun _ _ _ h => h) (Or.inr ⟨by rfl, rfl⟩) ?_ ?_
      rotate_left
      · simp only [Act.put, List.setIfInBounds_toArray, List.set_cons_zero, List.set_cons_succ, i64_w, i32_w]
        rfl
      refine pure_ (i := 24) (N := some 43) (v := undef) (a' := ?_) qa57_ rfl rfl (any_of HT_.out (by kernel_rfl)) (fun _ _ _ h => h) (Or.inr ⟨by rfl, rfl⟩) ?_ ?_
      rotate_left
      · simp only [Act.put, List.setIfInBounds_toArray, List.set_cons_zero, List.set_cons_succ, i64_w, i32_w]
        rfl
      refine pure_ (i := 25) (N := some 44) (v := undef) (a' := ?_) qa58_ rfl rfl (any_of HT_.out (by kernel_rfl)) (fun _ _ _ h => h) (Or.inr ⟨by rfl, rfl⟩) ?_ ?_
      rotate_left
      · simp only [Act.put, List.setIfInBounds_toArray, List.set_cons_zero, List.set_cons_succ, i64_w, i32_w]
        rfl
      refine pure_ (i := 26) (N := some 45) (v := undef) (a' := ?_) qa63_ rfl rfl (any_of HT_.out (by kernel_rfl)) (fun _ _ _ h => h) (Or.inr ⟨by rfl, rfl⟩) ?_ ?_
      rotate_left
      · simp only [Act.put, List.setIfInBounds_toArray, List.set_cons_zero, List.set_cons_succ, i64_w, i32_w]
        rfl
      refine pure_ (i := 27) (N := some 46) (v := undef) (a' := ?_) qa64_ rfl rfl (any_of HT_.out (by kernel_rfl)) (fun _ _ _ h => h) (Or.inr ⟨by rfl, rfl⟩) ?_ ?_
      rotate_left
      · simp only [Act.put, List.setIfInBounds_toArray, List.set_cons_zero, List.set_cons_succ, i64_w, i32_w]
        rfl
      refine pure_ (i := 28) (N := some 47) (v := undef) (a' := ?_) qa65_ rfl rfl (any_of HT_.out (by kernel_rfl)) (fun _ _ _ h => h) (Or.inr ⟨by rfl, rfl⟩) ?_ ?_
      rotate_left
      · simp only [Act.put, List.setIfInBounds_toArray, List.set_cons_zero, List.set_cons_succ, i64_w, i32_w]
        rfl
      refine pure_ (i := 29) (N := some 48) (v := undef) (a' := ?_) qa66_ rfl rfl (any_of HT_.out (by kernel_rfl)) (fun _ _ _ h => h) (Or.inr ⟨by rfl, rfl⟩) ?_ ?_
      rotate_left
      · simp only [Act.put, List.setIfInBounds_toArray, List.set_cons_zero, List.set_cons_succ, i64_w, i32_w]
        rfl
      refine pure_ (i := 30) (N := some 49) (v := undef) (a' := ?_) qa67_ rfl rfl (any_of HT_.out (by kernel_rfl)) (fun _ _ _ h => h) (Or.inr ⟨by rfl, rfl⟩) ?_ ?_
      rotate_left
      · simp only [Act.put, List.setIfInBounds_toArray, List.set_cons_zero, List.set_cons_succ, i64_w, i32_w]
        rfl
      refine pure_ (i := 31) (N := some 50) (v := undef) (a' := ?_) qa68_ rfl rfl (any_of HT_.out (by kernel_rfl)) (fun _ _ _ h => h) (Or.inr ⟨by rfl, rfl⟩) ?_ ?_
      rotate_left
      · simp only [Act.put, List.setIfInBounds_toArray, List.set_cons_zero, List.set_cons_succ, i64_w, i32_w]
        rfl
      refine pure_ (i := 32) (N := some 51) (v := undef) (a' := ?_) qa69_ rfl rfl (any_of HT_.out (by kernel_rfl)) (fun _ _ _ h => h) (Or.inr ⟨by rfl, rfl⟩) ?_ ?_
      rotate_left
      · simp only [Act.put, List.setIfInBounds_toArray, List.set_cons_zero, List.set_cons_succ, i64_w, i32_w]
        rfl
      refine pure_ (i := 33) (N := some 52) (v := ?_) (a' := ?_) qa70_ rfl rfl (any_of HT_.out (by kernel_rfl)) (fun _ _ _ h => h) (Or.inl ⟨by rfl, ?_⟩) ?_ ?_
      rotate_left
      · intro w'
        go_simp
        with_reducible rfl
      rotate_left
      · simp only [Act.put, List.setIfInBounds_toArray, List.set_cons_zero, List.set_cons_succ, i64_w, i32_w]
        rfl
      refine done_ (done_of HT_.out (by kernel_rfl)) ?_
      try go_wp2
      go_meet
      case rel => exact ⟨_, (true), (by first | rfl | (simp; done) | (simp [*]; done)), H', ⟨by first | omega | exact Nat.le_refl _⟩, ⟨by repeat (first | (with_reducible first | exact HB.out | apply bA_ | apply bN_ | apply b1_) | exact HB.out)⟩⟩
     subst c22
     have H1 : (if 0 ≤ t473 then (if t473 < (l0.length : Int) then (if 0 ≤ t474 then (if t474 < (l0.length : Int) then (impl_ShareCrew.j0 k l0 a3 t473 t474 (((rd_T26 l0 t473).f2) != ((rd_T26 l0 t474).f2))) else (none)) else (none)) else (none)) else (none)) = some (r1, r2) := by rw [if_pos rfl] at H; exact H
     clear H
     have H := H1
     clear H1
     by_cases c23 : 0 ≤ t473
     case neg =>
      rw [if_neg c23] at H
      exact absurd H (by simp)
     rw [if_pos c23] at H
     have c23b0 : decide (0 ≤ t473) = true := decide_eq_true c23
     clear c23
     by_cases c24 : t473 < (l0.length : Int)
     case neg =>
      rw [if_neg c24] at H
      exact absurd H (by simp)
     rw [if_pos c24] at H
     have c24b0 : decide (t473 < (l0.length : Int)) = true := decide_eq_true c24
     clear c24
     by_cases c25 : 0 ≤ t474
     case neg =>
      rw [if_neg c25] at H
      exact absurd H (by simp)
     rw [if_pos c25] at H
     have c25b0 : decide (0 ≤ t474) = true := decide_eq_true c25
     clear c25
     by_cases c26 : t474 < (l0.length : Int)
     case neg =>
      rw [if_neg c26] at H
      exact absurd H (by simp)
     rw [if_pos c26] at H
     have c26b0 : decide (t474 < (l0.length : Int)) = true := decide_eq_true c26
     clear c26
     have H' := Aside0.mk H
     clear H
     try go_wp2
     have n0_ := Aside0.mk (below_drew1 HB.out)
     clear HB
     have HB := n0_
     clear n0_
     have p477 : 0 ≤ (t473 : Int) := of_decide_eq_true (by first|with_reducible assumption|assumption)
     have q477 : t473 < (l0.length : Int) := of_decide_eq_true (by first|with_reducible assumption|assumption)
     obtain ⟨ad477, e477, hx477_0, hx477_1, hx477_2, hx477_3, hx477_4⟩ := at_T26 HR0.out t473 p477 q477
     have hw477_4 := hx477_4
     have hw477_3 := hx477_3
     have hw477_2 := hx477_2
     have hw477_1 := hx477_1
     have hw477_0 := hx477_0
     cases e477
     replace hx477_0 := cl_ HB.out hx477_0
     replace hx477_1 := cl_ HB.out hx477_1
     replace hx477_2 := cl_ HB.out hx477_2
     replace hx477_3 := cl_ HB.out hx477_3
     replace hx477_4 := cl_ HB.out hx477_4
     replace p477 := eq_true p477
     replace q477 := eq_true q477
     have p478 : 0 ≤ (t474 : Int) := of_decide_eq_true (by first|with_reducible assumption|assumption)
     have q478 : t474 < (l0.length : Int) := of_decide_eq_true (by first|with_reducible assumption|assumption)
     obtain ⟨ad478, e478, hx478_0, hx478_1, hx478_2, hx478_3, hx478_4⟩ := at_T26 HR0.out t474 p478 q478
     have hw478_4 := hx478_4
     have hw478_3 := hx478_3
     have hw478_2 := hx478_2
     have hw478_1 := hx478_1
     have hw478_0 := hx478_0
     obtain rfl : ad477 = ad478 := (by injection e478)
     replace hx478_0 := cl_ HB.out hx478_0
     replace hx478_1 := cl_ HB.out hx478_1
     replace hx478_2 := cl_ HB.out hx478_2
     replace hx478_3 := cl_ HB.out hx478_3
     replace hx478_4 := cl_ HB.out hx478_4
     replace p478 := eq_true p478
     replace q478 := eq_true q478
     refine start_ (n := 34) (S := fun w' => w'.cell? (ad477.add ((t473).toNat * 5)) = some (.string ((rd_T26 l0 t473).f0)) ∧ w'.cell? ⟨(ad477.add ((t473).toNat * 5)).block, (ad477.add ((t473).toNat * 5)).off + 1, none⟩ = some (.int .i64 ((rd_T26 l0 t473).f1)) ∧ w'.cell? ⟨(ad477.add ((t473).toNat * 5)).block, (ad477.add ((t473).toNat * 5)).off + 2, none⟩ = some (.int .i64 ((rd_T26 l0 t473).f2)) ∧ w'.cell? ⟨(ad477.add ((t473).toNat * 5)).block, (ad477.add ((t473).toNat * 5)).off + 3, none⟩ = some (.int .i64 ((rd_T26 l0 t473).f3)) ∧ w'.cell? ⟨(ad477.add ((t473).toNat * 5)).block, (ad477.add ((t473).toNat * 5)).off + 4, none⟩ = some (.int .i64 ((rd_T26 l0 t473).f4)) ∧ w'.cell? (ad477.add ((t474).toNat * 5)) = some (.string ((rd_T26 l0 t474).f0)) ∧ w'.cell? ⟨(ad477.add ((t474).toNat * 5)).block, (ad477.add ((t474).toNat * 5)).off + 1, none⟩ = some (.int .i64 ((rd_T26 l0 t474).f1)) ∧ w'.cell? ⟨(ad477.add ((t474).toNat * 5)).block, (ad477.add ((t474).toNat * 5)).off + 2, none⟩ = some (.int .i64 ((rd_T26 l0 t474).f2)) ∧ w'.cell? ⟨(ad477.add ((t474).toNat * 5)).block, (ad477.add ((t474).toNat * 5)).off + 3, none⟩ = some (.int .i64 ((rd_T26 l0 t474).f3)) ∧ w'.cell? ⟨(ad477.add ((t474).toNat * 5)).block, (ad477.add ((t474).toNat * 5)).off + 4, none⟩ = some (.int .i64 ((rd_T26 l0 t474).f4))) (ds := []) qa0_ (by kernel_rfl) rfl rfl ⟨((HB.out.cell (World.block_lt_of_cell? w _ hw477_0)).trans hw477_0), ((HB.out.cell (World.block_lt_of_cell? w _ hw477_1)).trans hw477_1), ((HB.out.cell (World.block_lt_of_cell? w _ hw477_2)).trans hw477_2), ((HB.out.cell (World.block_lt_of_cell? w _ hw477_3)).trans hw477_3), ((HB.out.cell (World.block_lt_of_cell? w _ hw477_4)).trans hw477_4), ((HB.out.cell (World.block_lt_of_cell? w _ hw478_0)).trans hw478_0), ((HB.out.cell (World.block_lt_of_cell? w _ hw478_1)).trans hw478_1), ((HB.out.cell (World.block_lt_of_cell? w _ hw478_2)).trans hw478_2), ((HB.out.cell (World.block_lt_of_cell? w _ hw478_3)).trans hw478_3), ((HB.out.cell (World.block_lt_of_cell? w _ hw478_4)).trans hw478_4)⟩ (fun hHeld => ?_); refine with_tabW impl_ShareCrew.tab2 impl_ShareCrew.bits2 (fun HT_ HW_ => ?_)
     generalize w9.drew = w27 at HB hx477_0 hx477_1 hx477_2 hx477_3 hx477_4 hx478_0 hx478_1 hx478_2 hx478_3 hx478_4 hHeld ⊢
     refine pure_ (i := 0) (N := some 19) (v := ?_) (a' := ?_) qa3_ rfl rfl (any_of HT_.out (by kernel_rfl)) (fun _ _ _ h => h) (Or.inl ⟨by rfl, ?_⟩) ?_ ?_
     rotate_left
     · intro w'
       go_simp
       with_reducible rfl
     rotate_left
     · simp only [Act.put, List.setIfInBounds_toArray, List.set_cons_zero, List.set_cons_succ, i64_w, i32_w]
       rfl
     refine one_ (i := 1) (N := some 20) qa6_ rfl rfl (one_of HT_.out (by kernel_rfl)) (by decide) (fun K hK => ?_)
     refine goes_ Try.func63 (by kernel_rfl) rfl #[.slice (some ad477) l0.length c0] (by rfl) rfl rfl (by (try simp only [List.map_toArray, List.map_cons, List.map_nil]); first | done | rfl) ?_
     with_reducible refine (impl_isFleet.calls k _ _ l0 true _ ?side1 ?side2 A10.out).mono ?_
     (case side1 => repeat (first | exact (Kd.C_below HR0.out HB.out) | (with_reducible refine Kd.C_alloc ?_ _) | (with_reducible refine Kd.C_drewN ?_ _) | (with_reducible refine Kd.C_drew ?_)))
     (case side2 => exact HC0.out)
     rintro e w28 ⟨rfl, hb⟩
     refine ⟨_, rfl, ?_⟩
     have n0_ := Aside0.mk (below_step (by repeat (first | (with_reducible first | exact HB.out | apply bA_ | apply bN_ | apply b1_) | exact HB.out)) hb)
     clear HB
     have HB := n0_
     clear n0_
     (try clear hb)
     (try clear hb2)
     (try clear hk)
     (try clear hi)
     refine hK.out _ _ ⟨((HB.out.cell (World.block_lt_of_cell? w _ hw477_0)).trans hw477_0), ((HB.out.cell (World.block_lt_of_cell? w _ hw477_1)).trans hw477_1), ((HB.out.cell (World.block_lt_of_cell? w _ hw477_2)).trans hw477_2), ((HB.out.cell (World.block_lt_of_cell? w _ hw477_3)).trans hw477_3), ((HB.out.cell (World.block_lt_of_cell? w _ hw477_4)).trans hw477_4), ((HB.out.cell (World.block_lt_of_cell? w _ hw478_0)).trans hw478_0), ((HB.out.cell (World.block_lt_of_cell? w _ hw478_1)).trans hw478_1), ((HB.out.cell (World.block_lt_of_cell? w _ hw478_2)).trans hw478_2), ((HB.out.cell (World.block_lt_of_cell? w _ hw478_3)).trans hw478_3), ((HB.out.cell (World.block_lt_of_cell? w _ hw478_4)).trans hw478_4)⟩ (fun hHeld => ?_)
     clear hK K
     refine norm_ (a' := ?_) ?_ ?_
     rotate_left
     · show Act.put _ (some 20) _ = _
       simp only [Act.put, List.setIfInBounds_toArray, List.set_cons_zero, List.set_cons_succ, i64_w, i32_w]
       rfl
     refine pure_ (i := 2) (N := some 21) (v := ?_) (a' := ?_) qa9_ rfl rfl (any_of HT_.out (by kernel_rfl)) (fun _ _ _ h => h) (Or.inl ⟨by rfl, ?_⟩) ?_ ?_
     rotate_left
     · intro w'
       go_simp
       with_reducible rfl
     rotate_left
     · simp only [Act.put, List.setIfInBounds_toArray, List.set_cons_zero, List.set_cons_succ, i64_w, i32_w]
       rfl
     refine pure_ (i := 3) (N := some 22) (v := ?_) (a' := ?_) qa15_ rfl rfl (any_of HT_.out (by kernel_rfl)) (fun _ _ _ h => h) (Or.inl ⟨by rfl, ?_⟩) ?_ ?_
     rotate_left
     · intro w'
       go_simp
       with_reducible rfl
     rotate_left
     · simp only [Act.put, List.setIfInBounds_toArray, List.set_cons_zero, List.set_cons_succ, i64_w, i32_w]
       rfl
     refine pure_ (i := 4) (N := some 23) (v := ?_) (a' := ?_) qa17_ rfl rfl (any_of HT_.out (by kernel_rfl)) (fun _ _ _ h => h) (Or.inl ⟨by rfl, ?_⟩) ?_ ?_
     rotate_left
     · intro w'
       go_simp
       with_reducible rfl
     rotate_left
     · simp only [Act.put, List.setIfInBounds_toArray, List.set_cons_zero, List.set_cons_succ, i64_w, i32_w]
       rfl
     refine pure_ (i := 5) (N := some 24) (v := ?_) (a' := ?_) qa19_ rfl rfl (any_of HT_.out (by kernel_rfl)) (fun _ _ _ h => h) (Or.inl ⟨by rfl, ?_⟩) ?_ ?_
     rotate_left
     · intro w'
       go_simp
       with_reducible rfl
     rotate_left
     · simp only [Act.put, List.setIfInBounds_toArray, List.set_cons_zero, List.set_cons_succ, i64_w, i32_w]
       rfl
     refine pure_ (i := 6) (N := some 25) (v := ?_) (a' := ?_) qa21_ rfl rfl (any_of HT_.out (by kernel_rfl)) (fun _ _ _ h => h) (Or.inl ⟨by rfl, ?_⟩) ?_ ?_
     rotate_left
     · intro w'
       go_simp
       with_reducible rfl
     rotate_left
     · simp only [Act.put, List.setIfInBounds_toArray, List.set_cons_zero, List.set_cons_succ, i64_w, i32_w]
       rfl
     refine pure_ (i := 7) (N := some 26) (v := ?_) (a' := ?_) qa24_ rfl rfl (any_of HT_.out (by kernel_rfl)) (fun _ _ _ h => h) (Or.inl ⟨by rfl, ?_⟩) ?_ ?_
     rotate_left
     · intro w'
       go_simp
       with_reducible rfl
     rotate_left
     · simp only [Act.put, List.setIfInBounds_toArray, List.set_cons_zero, List.set_cons_succ, i64_w, i32_w]
       rfl
     refine pure_ (i := 8) (N := some 27) (v := ?_) (a' := ?_) qa28_ rfl rfl (any_of HT_.out (by kernel_rfl)) (fun _ _ _ h => h) (Or.inl ⟨by rfl, ?_⟩) ?_ ?_
     rotate_left
     · intro w'
       go_simp
       with_reducible rfl
     rotate_left
     · simp only [Act.put, List.setIfInBounds_toArray, List.set_cons_zero, List.set_cons_succ, i64_w, i32_w]
       rfl
     refine pure_ (i := 9) (N := some 28) (v := ?_) (a' := ?_) qa31_ rfl rfl (any_of HT_.out (by kernel_rfl)) (fun _ _ _ h => h) (Or.inl ⟨by rfl, ?_⟩) ?_ ?_
     rotate_left
     · intro w'
       go_simp
       with_reducible rfl
     rotate_left
     · simp only [Act.put, List.setIfInBounds_toArray, List.set_cons_zero, List.set_cons_succ, i64_w, i32_w]
       rfl
     refine pure_ (i := 10) (N := some 29) (v := ?_) (a' := ?_) qa34_ rfl rfl (any_of HT_.out (by kernel_rfl)) (fun _ _ _ h => h) (Or.inl ⟨by rfl, ?_⟩) ?_ ?_
     rotate_left
     · intro w'
       go_simp
       with_reducible rfl
     rotate_left
     · simp only [Act.put, List.setIfInBounds_toArray, List.set_cons_zero, List.set_cons_succ, i64_w, i32_w]
       rfl
     refine pure_ (i := 11) (N := some 30) (v := ?_) (a' := ?_) qa37_ rfl rfl (any_of HT_.out (by kernel_rfl)) (fun _ _ _ h => h) (Or.inl ⟨by rfl, ?_⟩) ?_ ?_
     rotate_left
     · intro w'
       go_simp
       with_reducible rfl
     rotate_left
     · simp only [Act.put, List.setIfInBounds_toArray, List.set_cons_zero, List.set_cons_succ, i64_w, i32_w]
       rfl
     refine pure_ (i := 12) (N := some 31) (v := ?_) (a' := ?_) qa40_ rfl rfl (any_of HT_.out (by kernel_rfl)) (fun _ _ _ h => h) (Or.inl ⟨by rfl, ?_⟩) ?_ ?_
     rotate_left
     · intro w'
       go_simp
       with_reducible rfl
     rotate_left
     · simp only [Act.put, List.setIfInBounds_toArray, List.set_cons_zero, List.set_cons_succ, i64_w, i32_w]
       rfl
     refine pure_ (i := 13) (N := some 32) (v := ?_) (a' := ?_) qa42_ rfl rfl (any_of HT_.out (by kernel_rfl)) (fun _ _ _ h => h) (Or.inl ⟨by rfl, ?_⟩) ?_ ?_
     rotate_left
     · intro w'
       go_simp
       with_reducible rfl
     rotate_left
     · simp only [Act.put, List.setIfInBounds_toArray, List.set_cons_zero, List.set_cons_succ, i64_w, i32_w]
       rfl
     refine pure_ (i := 14) (N := some 33) (v := ?_) (a' := ?_) qa44_ rfl rfl (any_of HT_.out (by kernel_rfl)) (fun _ _ _ h => h) (Or.inl ⟨by rfl, ?_⟩) ?_ ?_
     rotate_left
     · intro w'
       go_simp
       with_reducible rfl
     rotate_left
     · simp only [Act.put, List.setIfInBounds_toArray, List.set_cons_zero, List.set_cons_succ, i64_w, i32_w]
       rfl
     refine pure_ (i := 15) (N := some 34) (v := ?_) (a' := ?_) qa46_ rfl rfl (any_of HT_.out (by kernel_rfl)) (fun _ _ _ h => h) (Or.inl ⟨by rfl, ?_⟩) ?_ ?_
     rotate_left
     · intro w'
       go_simp
       with_reducible rfl
     rotate_left
     · simp only [Act.put, List.setIfInBounds_toArray, List.set_cons_zero, List.set_cons_succ, i64_w, i32_w]
       rfl
     refine pure_ (i := 16) (N := some 35) (v := ?_) (a' := ?_) qa48_ rfl rfl (any_of HT_.out (by kernel_rfl)) (fun _ _ _ h => h) (Or.inl ⟨by rfl, ?_⟩) ?_ ?_
     rotate_left
     · intro w'
       go_simp
       with_reducible rfl
     rotate_left
     · simp only [Act.put, List.setIfInBounds_toArray, List.set_cons_zero, List.set_cons_succ, i64_w, i32_w]
       rfl
     refine pure_ (i := 17) (N := some 36) (v := ?_) (a' := ?_) qa50_ rfl rfl (any_of HT_.out (by kernel_rfl)) (fun _ _ _ h => h) (Or.inl ⟨by rfl, ?_⟩) ?_ ?_
     rotate_left
     · intro w'
       go_simp
       with_reducible rfl
     rotate_left
     · simp only [Act.put, List.setIfInBounds_toArray, List.set_cons_zero, List.set_cons_succ, i64_w, i32_w]
       rfl
     refine one_ (i := 18) (N := some 37) qa51_ rfl rfl (one_of HT_.out (by kernel_rfl)) (by decide) (fun K hK => ?_)
     refine goes_ Try.func71 (by kernel_rfl) rfl #[.int .i64 a3, .int .i64 1, .int .i64 8] (by rfl) rfl rfl (by (try simp only [List.map_toArray, List.map_cons, List.map_nil]); first | done | rfl) ?_
     with_reducible refine (impl_inside.calls a3 1 8 true _ A21.out).mono ?_
     rintro e w' ⟨rfl, ⟨nd, rfl⟩⟩
     refine ⟨_, rfl, ?_⟩
     refine hK.out _ _ ⟨((HB.out.cell (World.block_lt_of_cell? w _ hw477_0)).trans hw477_0), ((HB.out.cell (World.block_lt_of_cell? w _ hw477_1)).trans hw477_1), ((HB.out.cell (World.block_lt_of_cell? w _ hw477_2)).trans hw477_2), ((HB.out.cell (World.block_lt_of_cell? w _ hw477_3)).trans hw477_3), ((HB.out.cell (World.block_lt_of_cell? w _ hw477_4)).trans hw477_4), ((HB.out.cell (World.block_lt_of_cell? w _ hw478_0)).trans hw478_0), ((HB.out.cell (World.block_lt_of_cell? w _ hw478_1)).trans hw478_1), ((HB.out.cell (World.block_lt_of_cell? w _ hw478_2)).trans hw478_2), ((HB.out.cell (World.block_lt_of_cell? w _ hw478_3)).trans hw478_3), ((HB.out.cell (World.block_lt_of_cell? w _ hw478_4)).trans hw478_4)⟩ (fun hHeld => ?_)
     clear hK K
     refine norm_ (a' := ?_) ?_ ?_
     rotate_left
     · show Act.put _ (some 37) _ = _
       simp only [Act.put, List.setIfInBounds_toArray, List.set_cons_zero, List.set_cons_succ, i64_w, i32_w]
       rfl
     refine pure_ (i := 19) (N := some 38) (v := ?_) (a' := ?_) qa52_ rfl rfl (any_of HT_.out (by kernel_rfl)) (fun _ _ _ h => h) (Or.inl ⟨by rfl, ?_⟩) ?_ ?_
     rotate_left
     · intro w'
       go_simp
       with_reducible rfl
     rotate_left
     · simp only [Act.put, List.setIfInBounds_toArray, List.set_cons_zero, List.set_cons_succ, i64_w, i32_w]
       rfl
     refine pure_ (i := 20) (N := some 39) (v := ?_) (a' := ?_) qa53_ rfl rfl (any_of HT_.out (by kernel_rfl)) (fun _ _ _ h => h) (Or.inl ⟨by rfl, ?_⟩) ?_ ?_
     rotate_left
     · intro w'
       go_simp
       with_reducible rfl
     rotate_left
     · simp only [Act.put, List.setIfInBounds_toArray, List.set_cons_zero, List.set_cons_succ, i64_w, i32_w]
       rfl
     refine pure_ (i := 21) (N := some 40) (v := ?_) (a' := ?_) qa54_ rfl rfl (any_of HT_.out (by kernel_rfl)) (fun _ _ _ h => h) (Or.inl ⟨by rfl, ?_⟩) ?_ ?_
     rotate_left
     · intro w'
       go_simp
       with_reducible rfl
     rotate_left
     · simp only [Act.put, List.setIfInBounds_toArray, List.set_cons_zero, List.set_cons_succ, i64_w, i32_w]
       rfl
     refine pure_ (i := 22) (N := some 41) (v := ?_) (a' := ?_) qa55_ rfl rfl (any_of HT_.out (by kernel_rfl)) (fun _ _ _ h => h) (Or.inl ⟨by rfl, ?_⟩) ?_ ?_
     rotate_left
     · intro w'
       go_simp
       with_reducible rfl
     rotate_left
     · simp only [Act.put, List.setIfInBounds_toArray, List.set_cons_zero, List.set_cons_succ, i64_w, i32_w]
       rfl
     refine pure_ (i := 23) (N := some 42) (v := ?_) (a' := ?_) qa56_ rfl rfl (any_of HT_.out (by kernel_rfl)) (fun _ _ _ h => h) (Or.inl ⟨by rfl, ?_⟩) ?_ ?_
     rotate_left
     · intro w'
       go_simp
       with_reducible rfl
     rotate_left
     · simp only [Act.put, List.setIfInBounds_toArray, List.set_cons_zero, List.set_cons_succ, i64_w, i32_w]
       rfl
     refine pure_ (i := 24) (N := some 43) (v := ?_) (a' := ?_) qa57_ rfl rfl (any_of HT_.out (by kernel_rfl)) (fun _ _ _ h => h) (Or.inl ⟨by rfl, ?_⟩) ?_ ?_
     rotate_left
     · intro w'
       go_simp
       with_reducible rfl
     rotate_left
     · simp only [Act.put, List.setIfInBounds_toArray, List.set_cons_zero, List.set_cons_succ, i64_w, i32_w]
       rfl
     refine pure_ (i := 25) (N := some 44) (v := ?_) (a' := ?_) qa58_ rfl rfl (any_of HT_.out (by kernel_rfl)) (fun _ _ _ h => h) (Or.inl ⟨by rfl, ?_⟩) ?_ ?_
     rotate_left
     · intro w'
       go_simp
       with_reducible rfl
     rotate_left
     · simp only [Act.put, List.setIfInBounds_toArray, List.set_cons_zero, List.set_cons_succ, i64_w, i32_w]
       rfl
     refine pure_ (i := 27) (N := some 46) (v := ?_) (a' := ?_) qa59_ rfl rfl (any_of HT_.out (by kernel_rfl)) (fun _ _ _ h => h) (Or.inl ⟨by rfl, ?_⟩) ?_ ?_
     rotate_left
     · intro w'
       go_simp
       with_reducible rfl
     rotate_left
     · simp only [Act.put, List.setIfInBounds_toArray, List.set_cons_zero, List.set_cons_succ, i64_w, i32_w]
       rfl
     refine pure_ (i := 28) (N := some 47) (v := ?_) (a' := ?_) qa60_ rfl rfl (any_of HT_.out (by kernel_rfl)) (fun _ _ _ h => h) (Or.inl ⟨by rfl, ?_⟩) ?_ ?_
     rotate_left
     · intro w'
       go_simp
       with_reducible rfl
     rotate_left
     · simp only [Act.put, List.setIfInBounds_toArray, List.set_cons_zero, List.set_cons_succ, i64_w, i32_w]
       rfl
     refine pure_ (i := 29) (N := some 48) (v := ?_) (a' := ?_) qa61_ rfl rfl (any_of HT_.out (by kernel_rfl)) (fun _ _ _ h => h) (Or.inl ⟨by rfl, ?_⟩) ?_ ?_
     rotate_left
     · intro w'
       go_simp
       with_reducible rfl
     rotate_left
     · simp only [Act.put, List.setIfInBounds_toArray, List.set_cons_zero, List.set_cons_succ, i64_w, i32_w]
       rfl
     refine pure_ (i := 30) (N := some 49) (v := ?_) (a' := ?_) qa62_ rfl rfl (any_of HT_.out (by kernel_rfl)) (fun _ _ _ h => h) (Or.inl ⟨by rfl, ?_⟩) ?_ ?_
     rotate_left
     · intro w'
       go_simp
       with_reducible rfl
     rotate_left
     · simp only [Act.put, List.setIfInBounds_toArray, List.set_cons_zero, List.set_cons_succ, i64_w, i32_w]
       rfl
     refine take_ (i := 26) (N := some 45) (v := ?_) (a' := ?_) qa67_ rfl rfl (take_ofW HT_.out HW_.out (by kernel_rfl)) (fun _ _ _ h => h) (Or.inl ⟨by rfl, ?_⟩) hHeld ?_ ?_
     rotate_left
     · rintro w' ⟨s0, s1, s2, s3, s4, s5, s6, s7, s8, s9⟩
       go_simp
       with_reducible rfl
     rotate_left
     · simp only [Act.put, List.setIfInBounds_toArray, List.set_cons_zero, List.set_cons_succ, i64_w, i32_w]
       rfl
     refine take_ (i := 31) (N := some 50) (v := ?_) (a' := ?_) qa68_ rfl rfl (take_ofW HT_.out HW_.out (by kernel_rfl)) (fun _ _ _ h => h) (Or.inl ⟨by rfl, ?_⟩) hHeld ?_ ?_
     rotate_left
     · rintro w' ⟨s0, s1, s2, s3, s4, s5, s6, s7, s8, s9⟩
       go_simp
       with_reducible rfl
     rotate_left
     · simp only [Act.put, List.setIfInBounds_toArray, List.set_cons_zero, List.set_cons_succ, i64_w, i32_w]
       rfl
     refine pure_ (i := 32) (N := some 51) (v := ?_) (a' := ?_) qa69_ rfl rfl (any_of HT_.out (by kernel_rfl)) (fun _ _ _ h => h) (Or.inl ⟨by rfl, ?_⟩) ?_ ?_
     rotate_left
     · intro w'
       go_simp
       with_reducible rfl
     rotate_left
     · simp only [Act.put, List.setIfInBounds_toArray, List.set_cons_zero, List.set_cons_succ, i64_w, i32_w]
       rfl
     refine pure_ (i := 33) (N := some 52) (v := ?_) (a' := ?_) qa70_ rfl rfl (any_of HT_.out (by kernel_rfl)) (fun _ _ _ h => h) (Or.inl ⟨by rfl, ?_⟩) ?_ ?_
     rotate_left
     · intro w'
       go_simp
       with_reducible rfl
     rotate_left
     · simp only [Act.put, List.setIfInBounds_toArray, List.set_cons_zero, List.set_cons_succ, i64_w, i32_w]
       rfl
     refine done_ (done_of HT_.out (by kernel_rfl)) ?_
     try go_wp2
     go_meet
     case rel => exact ⟨_, ((((rd_T26 l0 t473).f2) != ((rd_T26 l0 t474).f2))), (by first | rfl | (simp; done) | (simp [*]; done)), H', ⟨by first | omega | exact Nat.le_refl _⟩, ⟨by repeat (first | (with_reducible first | exact HB.out | apply bA_ | apply bN_ | apply b1_) | exact HB.out)⟩⟩
    rw [if_pos c18] at H
    have c18b0 : (t473 == t474) = true := beq_iff_eq.mpr c18
    have c18b1 : (t473 != t474) = false := bne_eq_false_iff_eq.mpr c18
    clear c18
    have H' := Aside0.mk H
    clear H
    try go_wp2
    have n0_ := Aside0.mk (below_drew1 HB.out)
    clear HB
    have HB := n0_
    clear n0_
    refine start_ (n := 34) (S := fun w' => True) (ds := []) qa0_ (by kernel_rfl) rfl rfl trivial (fun hHeld => ?_); refine with_tabW impl_ShareCrew.tab2 impl_ShareCrew.bits2 (fun HT_ HW_ => ?_)
    generalize w9.drew = w19 at HB hHeld ⊢
    refine pure_ (i := 0) (N := some 19) (v := ?_) (a' := ?_) qa3_ rfl rfl (any_of HT_.out (by kernel_rfl)) (fun _ _ _ h => h) (Or.inl ⟨by rfl, ?_⟩) ?_ ?_
    rotate_left
    · intro w'
      go_simp
      with_reducible rfl
    rotate_left
    · simp only [Act.put, List.setIfInBounds_toArray, List.set_cons_zero, List.set_cons_succ, i64_w, i32_w]
      rfl
    refine one_ (i := 1) (N := some 20) qa6_ rfl rfl (one_of HT_.out (by kernel_rfl)) (by decide) (fun K hK => ?_)
    refine goes_ Try.func63 (by kernel_rfl) rfl #[.slice A0 l0.length c0] (by rfl) rfl rfl (by (try simp only [List.map_toArray, List.map_cons, List.map_nil]); first | done | rfl) ?_
    with_reducible refine (impl_isFleet.calls k _ _ l0 true _ ?side1 ?side2 A10.out).mono ?_
    (case side1 => repeat (first | exact (Kd.C_below HR0.out HB.out) | (with_reducible refine Kd.C_alloc ?_ _) | (with_reducible refine Kd.C_drewN ?_ _) | (with_reducible refine Kd.C_drew ?_)))
    (case side2 => exact HC0.out)
    rintro e w20 ⟨rfl, hb⟩
    refine ⟨_, rfl, ?_⟩
    have n0_ := Aside0.mk (below_step (by repeat (first | (with_reducible first | exact HB.out | apply bA_ | apply bN_ | apply b1_) | exact HB.out)) hb)
    clear HB
    have HB := n0_
    clear n0_
    (try clear hb)
    (try clear hb2)
    (try clear hk)
    (try clear hi)
    refine hK.out _ _ trivial (fun hHeld => ?_)
    clear hK K
    refine norm_ (a' := ?_) ?_ ?_
    rotate_left
    · show Act.put _ (some 20) _ = _
      simp only [Act.put, List.setIfInBounds_toArray, List.set_cons_zero, List.set_cons_succ, i64_w, i32_w]
      rfl
    refine pure_ (i := 2) (N := some 21) (v := ?_) (a' := ?_) qa9_ rfl rfl (any_of HT_.out (by kernel_rfl)) (fun _ _ _ h => h) (Or.inl ⟨by rfl, ?_⟩) ?_ ?_
    rotate_left
    · intro w'
      go_simp
      with_reducible rfl
    rotate_left
    · simp only [Act.put, List.setIfInBounds_toArray, List.set_cons_zero, List.set_cons_succ, i64_w, i32_w]
      rfl
    refine pure_ (i := 3) (N := some 22) (v := ?_) (a' := ?_) qa15_ rfl rfl (any_of HT_.out (by kernel_rfl)) (fun _ _ _ h => h) (Or.inl ⟨by rfl, ?_⟩) ?_ ?_
    rotate_left
    · intro w'
      go_simp
      with_reducible rfl
    rotate_left
    · simp only [Act.put, List.setIfInBounds_toArray, List.set_cons_zero, List.set_cons_succ, i64_w, i32_w]
      rfl
    refine pure_ (i := 4) (N := some 23) (v := ?_) (a' := ?_) qa17_ rfl rfl (any_of HT_.out (by kernel_rfl)) (fun _ _ _ h => h) (Or.inl ⟨by rfl, ?_⟩) ?_ ?_
    rotate_left
    · intro w'
      go_simp
      with_reducible rfl
    rotate_left
    · simp only [Act.put, List.setIfInBounds_toArray, List.set_cons_zero, List.set_cons_succ, i64_w, i32_w]
      rfl
    refine pure_ (i := 5) (N := some 24) (v := ?_) (a' := ?_) qa19_ rfl rfl (any_of HT_.out (by kernel_rfl)) (fun _ _ _ h => h) (Or.inl ⟨by rfl, ?_⟩) ?_ ?_
    rotate_left
    · intro w'
      go_simp
      with_reducible rfl
    rotate_left
    · simp only [Act.put, List.setIfInBounds_toArray, List.set_cons_zero, List.set_cons_succ, i64_w, i32_w]
      rfl
    refine pure_ (i := 6) (N := some 25) (v := ?_) (a' := ?_) qa21_ rfl rfl (any_of HT_.out (by kernel_rfl)) (fun _ _ _ h => h) (Or.inl ⟨by rfl, ?_⟩) ?_ ?_
    rotate_left
    · intro w'
      go_simp
      with_reducible rfl
    rotate_left
    · simp only [Act.put, List.setIfInBounds_toArray, List.set_cons_zero, List.set_cons_succ, i64_w, i32_w]
      rfl
    refine pure_ (i := 7) (N := some 26) (v := ?_) (a' := ?_) qa24_ rfl rfl (any_of HT_.out (by kernel_rfl)) (fun _ _ _ h => h) (Or.inl ⟨by rfl, ?_⟩) ?_ ?_
    rotate_left
    · intro w'
      go_simp
      with_reducible rfl
    rotate_left
    · simp only [Act.put, List.setIfInBounds_toArray, List.set_cons_zero, List.set_cons_succ, i64_w, i32_w]
      rfl
    refine pure_ (i := 8) (N := some 27) (v := ?_) (a' := ?_) qa28_ rfl rfl (any_of HT_.out (by kernel_rfl)) (fun _ _ _ h => h) (Or.inl ⟨by rfl, ?_⟩) ?_ ?_
    rotate_left
    · intro w'
      go_simp
      with_reducible rfl
    rotate_left
    · simp only [Act.put, List.setIfInBounds_toArray, List.set_cons_zero, List.set_cons_succ, i64_w, i32_w]
      rfl
    refine pure_ (i := 9) (N := some 28) (v := ?_) (a' := ?_) qa31_ rfl rfl (any_of HT_.out (by kernel_rfl)) (fun _ _ _ h => h) (Or.inl ⟨by rfl, ?_⟩) ?_ ?_
    rotate_left
    · intro w'
      go_simp
      with_reducible rfl
    rotate_left
    · simp only [Act.put, List.setIfInBounds_toArray, List.set_cons_zero, List.set_cons_succ, i64_w, i32_w]
      rfl
    refine pure_ (i := 10) (N := some 29) (v := ?_) (a' := ?_) qa34_ rfl rfl (any_of HT_.out (by kernel_rfl)) (fun _ _ _ h => h) (Or.inl ⟨by rfl, ?_⟩) ?_ ?_
    rotate_left
    · intro w'
      go_simp
      with_reducible rfl
    rotate_left
    · simp only [Act.put, List.setIfInBounds_toArray, List.set_cons_zero, List.set_cons_succ, i64_w, i32_w]
      rfl
    refine pure_ (i := 11) (N := some 30) (v := ?_) (a' := ?_) qa37_ rfl rfl (any_of HT_.out (by kernel_rfl)) (fun _ _ _ h => h) (Or.inl ⟨by rfl, ?_⟩) ?_ ?_
    rotate_left
    · intro w'
      go_simp
      with_reducible rfl
    rotate_left
    · simp only [Act.put, List.setIfInBounds_toArray, List.set_cons_zero, List.set_cons_succ, i64_w, i32_w]
      rfl
    refine pure_ (i := 12) (N := some 31) (v := ?_) (a' := ?_) qa40_ rfl rfl (any_of HT_.out (by kernel_rfl)) (fun _ _ _ h => h) (Or.inl ⟨by rfl, ?_⟩) ?_ ?_
    rotate_left
    · intro w'
      go_simp
      with_reducible rfl
    rotate_left
    · simp only [Act.put, List.setIfInBounds_toArray, List.set_cons_zero, List.set_cons_succ, i64_w, i32_w]
      rfl
    refine pure_ (i := 13) (N := some 32) (v := ?_) (a' := ?_) qa42_ rfl rfl (any_of HT_.out (by kernel_rfl)) (fun _ _ _ h => h) (Or.inl ⟨by rfl, ?_⟩) ?_ ?_
    rotate_left
    · intro w'
      go_simp
      with_reducible rfl
    rotate_left
    · simp only [Act.put, List.setIfInBounds_toArray, List.set_cons_zero, List.set_cons_succ, i64_w, i32_w]
      rfl
    refine pure_ (i := 14) (N := some 33) (v := ?_) (a' := ?_) qa44_ rfl rfl (any_of HT_.out (by kernel_rfl)) (fun _ _ _ h => h) (Or.inl ⟨by rfl, ?_⟩) ?_ ?_
    rotate_left
    · intro w'
      go_simp
      with_reducible rfl
    rotate_left
    · simp only [Act.put, List.setIfInBounds_toArray, List.set_cons_zero, List.set_cons_succ, i64_w, i32_w]
      rfl
    refine pure_ (i := 15) (N := some 34) (v := ?_) (a' := ?_) qa46_ rfl rfl (any_of HT_.out (by kernel_rfl)) (fun _ _ _ h => h) (Or.inl ⟨by rfl, ?_⟩) ?_ ?_
    rotate_left
    · intro w'
      go_simp
      with_reducible rfl
    rotate_left
    · simp only [Act.put, List.setIfInBounds_toArray, List.set_cons_zero, List.set_cons_succ, i64_w, i32_w]
      rfl
    refine pure_ (i := 16) (N := some 35) (v := ?_) (a' := ?_) qa48_ rfl rfl (any_of HT_.out (by kernel_rfl)) (fun _ _ _ h => h) (Or.inl ⟨by rfl, ?_⟩) ?_ ?_
    rotate_left
    · intro w'
      go_simp
      with_reducible rfl
    rotate_left
    · simp only [Act.put, List.setIfInBounds_toArray, List.set_cons_zero, List.set_cons_succ, i64_w, i32_w]
      rfl
    refine pure_ (i := 17) (N := some 36) (v := undef) (a' := ?_) qa50_ rfl rfl (any_of HT_.out (by kernel_rfl)) (fun _ _ _ h => h) (Or.inr ⟨by rfl, rfl⟩) ?_ ?_
    rotate_left
    · simp only [Act.put, List.setIfInBounds_toArray, List.set_cons_zero, List.set_cons_succ, i64_w, i32_w]
      rfl
    refine pure_ (i := 18) (N := some 37) (v := undef) (a' := ?_) qa51_ rfl rfl (any_of HT_.out (by kernel_rfl)) (fun _ _ _ h => h) (Or.inr ⟨by rfl, rfl⟩) ?_ ?_
    rotate_left
    · simp only [Act.put, List.setIfInBounds_toArray, List.set_cons_zero, List.set_cons_succ, i64_w, i32_w]
      rfl
    refine pure_ (i := 19) (N := some 38) (v := undef) (a' := ?_) qa52_ rfl rfl (any_of HT_.out (by kernel_rfl)) (fun _ _ _ h => h) (Or.inr ⟨by rfl, rfl⟩) ?_ ?_
    rotate_left
    · simp only [Act.put, List.setIfInBounds_toArray, List.set_cons_zero, List.set_cons_succ, i64_w, i32_w]
      rfl
    refine pure_ (i := 20) (N := some 39) (v := ?_) (a' := ?_) qa53_ rfl rfl (any_of HT_.out (by kernel_rfl)) (fun _ _ _ h => h) (Or.inl ⟨by rfl, ?_⟩) ?_ ?_
    rotate_left
    · intro w'
      go_simp
      with_reducible rfl
    rotate_left
    · simp only [Act.put, List.setIfInBounds_toArray, List.set_cons_zero, List.set_cons_succ, i64_w, i32_w]
      rfl
    refine pure_ (i := 21) (N := some 40) (v := ?_) (a' := ?_) qa54_ rfl rfl (any_of HT_.out (by kernel_rfl)) (fun _ _ _ h => h) (Or.inl ⟨by rfl, ?_⟩) ?_ ?_
    rotate_left
    · intro w'
      go_simp
      with_reducible rfl
    rotate_left
    · simp only [Act.put, List.setIfInBounds_toArray, List.set_cons_zero, List.set_cons_succ, i64_w, i32_w]
      rfl
    refine pure_ (i := 22) (N := some 41) (v := undef) (a' := ?_) qa55_ rfl rfl (any_of HT_.out (by kernel_rfl)) (fun _ _ _ h => h) (Or.inr ⟨by rfl, rfl⟩) ?_ ?_
    rotate_left
    · simp only [Act.put, List.setIfInBounds_toArray, List.set_cons_zero, List.set_cons_succ, i64_w, i32_w]
      rfl
    refine pure_ (i := 23) (N := some 42) (v := undef) (a' := ?_) qa56_ rfl rfl (any_of HT_.out (by kernel_rfl)) (fun _ _ _ h => h) (Or.inr ⟨by rfl, rfl⟩) ?_ ?_
    rotate_left
    · simp only [Act.put, List.setIfInBounds_toArray, List.set_cons_zero, List.set_cons_succ, i64_w, i32_w]
      rfl
    refine pure_ (i := 24) (N := some 43) (v := undef) (a' := ?_) qa57_ rfl rfl (any_of HT_.out (by kernel_rfl)) (fun _ _ _ h => h) (Or.inr ⟨by rfl, rfl⟩) ?_ ?_
    rotate_left
    · simp only [Act.put, List.setIfInBounds_toArray, List.set_cons_zero, List.set_cons_succ, i64_w, i32_w]
      rfl
    refine pure_ (i := 25) (N := some 44) (v := undef) (a' := ?_) qa58_ rfl rfl (any_of HT_.out (by kernel_rfl)) (fun _ _ _ h => h) (Or.inr ⟨by rfl, rfl⟩) ?_ ?_
    rotate_left
    · simp only [Act.put, List.setIfInBounds_toArray, List.set_cons_zero, List.set_cons_succ, i64_w, i32_w]
      rfl
    refine pure_ (i := 26) (N := some 45) (v := undef) (a' := ?_) qa63_ rfl rfl (any_of HT_.out (by kernel_rfl)) (fun _ _ _ h => h) (Or.inr ⟨by rfl, rfl⟩) ?_ ?_
    rotate_left
    · simp only [Act.put, List.setIfInBounds_toArray, List.set_cons_zero, List.set_cons_succ, i64_w, i32_w]
      rfl
    refine pure_ (i := 27) (N := some 46) (v := undef) (a' := ?_) qa64_ rfl rfl (any_of HT_.out (by kernel_rfl)) (fun _ _ _ h => h) (Or.inr ⟨by rfl, rfl⟩) ?_ ?_
    rotate_left
    · simp only [Act.put, List.setIfInBounds_toArray, List.set_cons_zero, List.set_cons_succ, i64_w, i32_w]
      rfl
    refine pure_ (i := 28) (N := some 47) (v := undef) (a' := ?_) qa65_ rfl rfl (any_of HT_.out (by kernel_rfl)) (fun _ _ _ h => h) (Or.inr ⟨by rfl, rfl⟩) ?_ ?_
    rotate_left
    · simp only [Act.put, List.setIfInBounds_toArray, List.set_cons_zero, List.set_cons_succ, i64_w, i32_w]
      rfl
    refine pure_ (i := 29) (N := some 48) (v := undef) (a' := ?_) qa66_ rfl rfl (any_of HT_.out (by kernel_rfl)) (fun _ _ _ h => h) (Or.inr ⟨by rfl, rfl⟩) ?_ ?_
    rotate_left
    · simp only [Act.put, List.setIfInBounds_toArray, List.set_cons_zero, List.set_cons_succ, i64_w, i32_w]
      rfl
    refine pure_ (i := 30) (N := some 49) (v := undef) (a' := ?_) qa67_ rfl rfl (any_of HT_.out (by kernel_rfl)) (fun _ _ _ h => h) (Or.inr ⟨by rfl, rfl⟩) ?_ ?_
    rotate_left
    · simp only [Act.put, List.setIfInBounds_toArray, List.set_cons_zero, List.set_cons_succ, i64_w, i32_w]
      rfl
    refine pure_ (i := 31) (N := some 50) (v := undef) (a' := ?_) qa68_ rfl rfl (any_of HT_.out (by kernel_rfl)) (fun _ _ _ h => h) (Or.inr ⟨by rfl, rfl⟩) ?_ ?_
    rotate_left
    · simp only [Act.put, List.setIfInBounds_toArray, List.set_cons_zero, List.set_cons_succ, i64_w, i32_w]
      rfl
    refine pure_ (i := 32) (N := some 51) (v := undef) (a' := ?_) qa69_ rfl rfl (any_of HT_.out (by kernel_rfl)) (fun _ _ _ h => h) (Or.inr ⟨by rfl, rfl⟩) ?_ ?_
    rotate_left
    · simp only [Act.put, List.setIfInBounds_toArray, List.set_cons_zero, List.set_cons_succ, i64_w, i32_w]
      rfl
    refine pure_ (i := 33) (N := some 52) (v := ?_) (a' := ?_) qa70_ rfl rfl (any_of HT_.out (by kernel_rfl)) (fun _ _ _ h => h) (Or.inl ⟨by rfl, ?_⟩) ?_ ?_
    rotate_left
    · intro w'
      go_simp
      with_reducible rfl
    rotate_left
    · simp only [Act.put, List.setIfInBounds_toArray, List.set_cons_zero, List.set_cons_succ, i64_w, i32_w]
      rfl
    refine done_ (done_of HT_.out (by kernel_rfl)) ?_
    try go_wp2
    go_meet
    case rel => exact ⟨_, (true), (by first | rfl | (simp; done) | (simp [*]; done)), H', ⟨by first | omega | exact Nat.le_refl _⟩, ⟨by repeat (first | (with_reducible first | exact HB.out | apply bA_ | apply bN_ | apply b1_) | exact HB.out)⟩⟩
   rw [if_pos c15] at H
   have c15b0 : decide (t474 < 0) = true := decide_eq_true c15
   clear c15
   have H' := Aside0.mk H
   clear H
   try go_wp2
   have n0_ := Aside0.mk (below_drew1 HB.out)
   clear HB
   have HB := n0_
   clear n0_
   refine start_ (n := 34) (S := fun w' => True) (ds := []) qa0_ (by kernel_rfl) rfl rfl trivial (fun hHeld => ?_); refine with_tabW impl_ShareCrew.tab2 impl_ShareCrew.bits2 (fun HT_ HW_ => ?_)
   generalize w9.drew = w16 at HB hHeld ⊢
   refine pure_ (i := 0) (N := some 19) (v := ?_) (a' := ?_) qa3_ rfl rfl (any_of HT_.out (by kernel_rfl)) (fun _ _ _ h => h) (Or.inl ⟨by rfl, ?_⟩) ?_ ?_
   rotate_left
   · intro w'
     go_simp
     with_reducible rfl
   rotate_left
   · simp only [Act.put, List.setIfInBounds_toArray, List.set_cons_zero, List.set_cons_succ, i64_w, i32_w]
     rfl
   refine one_ (i := 1) (N := some 20) qa6_ rfl rfl (one_of HT_.out (by kernel_rfl)) (by decide) (fun K hK => ?_)
   refine goes_ Try.func63 (by kernel_rfl) rfl #[.slice A0 l0.length c0] (by rfl) rfl rfl (by (try simp only [List.map_toArray, List.map_cons, List.map_nil]); first | done | rfl) ?_
   with_reducible refine (impl_isFleet.calls k _ _ l0 true _ ?side1 ?side2 A10.out).mono ?_
   (case side1 => repeat (first | exact (Kd.C_below HR0.out HB.out) | (with_reducible refine Kd.C_alloc ?_ _) | (with_reducible refine Kd.C_drewN ?_ _) | (with_reducible refine Kd.C_drew ?_)))
   (case side2 => exact HC0.out)
   rintro e w17 ⟨rfl, hb⟩
   refine ⟨_, rfl, ?_⟩
   have n0_ := Aside0.mk (below_step (by repeat (first | (with_reducible first | exact HB.out | apply bA_ | apply bN_ | apply b1_) | exact HB.out)) hb)
   clear HB
   have HB := n0_
   clear n0_
   (try clear hb)
   (try clear hb2)
   (try clear hk)
   (try clear hi)
   refine hK.out _ _ trivial (fun hHeld => ?_)
   clear hK K
   refine norm_ (a' := ?_) ?_ ?_
   rotate_left
   · show Act.put _ (some 20) _ = _
     simp only [Act.put, List.setIfInBounds_toArray, List.set_cons_zero, List.set_cons_succ, i64_w, i32_w]
     rfl
   refine pure_ (i := 2) (N := some 21) (v := ?_) (a' := ?_) qa9_ rfl rfl (any_of HT_.out (by kernel_rfl)) (fun _ _ _ h => h) (Or.inl ⟨by rfl, ?_⟩) ?_ ?_
   rotate_left
   · intro w'
     go_simp
     with_reducible rfl
   rotate_left
   · simp only [Act.put, List.setIfInBounds_toArray, List.set_cons_zero, List.set_cons_succ, i64_w, i32_w]
     rfl
   refine pure_ (i := 3) (N := some 22) (v := ?_) (a' := ?_) qa15_ rfl rfl (any_of HT_.out (by kernel_rfl)) (fun _ _ _ h => h) (Or.inl ⟨by rfl, ?_⟩) ?_ ?_
   rotate_left
   · intro w'
     go_simp
     with_reducible rfl
   rotate_left
   · simp only [Act.put, List.setIfInBounds_toArray, List.set_cons_zero, List.set_cons_succ, i64_w, i32_w]
     rfl
   refine pure_ (i := 4) (N := some 23) (v := ?_) (a' := ?_) qa17_ rfl rfl (any_of HT_.out (by kernel_rfl)) (fun _ _ _ h => h) (Or.inl ⟨by rfl, ?_⟩) ?_ ?_
   rotate_left
   · intro w'
     go_simp
     with_reducible rfl
   rotate_left
   · simp only [Act.put, List.setIfInBounds_toArray, List.set_cons_zero, List.set_cons_succ, i64_w, i32_w]
     rfl
   refine pure_ (i := 5) (N := some 24) (v := ?_) (a' := ?_) qa19_ rfl rfl (any_of HT_.out (by kernel_rfl)) (fun _ _ _ h => h) (Or.inl ⟨by rfl, ?_⟩) ?_ ?_
   rotate_left
   · intro w'
     go_simp
     with_reducible rfl
   rotate_left
   · simp only [Act.put, List.setIfInBounds_toArray, List.set_cons_zero, List.set_cons_succ, i64_w, i32_w]
     rfl
   refine pure_ (i := 6) (N := some 25) (v := ?_) (a' := ?_) qa21_ rfl rfl (any_of HT_.out (by kernel_rfl)) (fun _ _ _ h => h) (Or.inl ⟨by rfl, ?_⟩) ?_ ?_
   rotate_left
   · intro w'
     go_simp
     with_reducible rfl
   rotate_left
   · simp only [Act.put, List.setIfInBounds_toArray, List.set_cons_zero, List.set_cons_succ, i64_w, i32_w]
     rfl
   refine pure_ (i := 7) (N := some 26) (v := ?_) (a' := ?_) qa24_ rfl rfl (any_of HT_.out (by kernel_rfl)) (fun _ _ _ h => h) (Or.inl ⟨by rfl, ?_⟩) ?_ ?_
   rotate_left
   · intro w'
     go_simp
     with_reducible rfl
   rotate_left
   · simp only [Act.put, List.setIfInBounds_toArray, List.set_cons_zero, List.set_cons_succ, i64_w, i32_w]
     rfl
   refine pure_ (i := 8) (N := some 27) (v := ?_) (a' := ?_) qa28_ rfl rfl (any_of HT_.out (by kernel_rfl)) (fun _ _ _ h => h) (Or.inl ⟨by rfl, ?_⟩) ?_ ?_
   rotate_left
   · intro w'
     go_simp
     with_reducible rfl
   rotate_left
   · simp only [Act.put, List.setIfInBounds_toArray, List.set_cons_zero, List.set_cons_succ, i64_w, i32_w]
     rfl
   refine pure_ (i := 9) (N := some 28) (v := ?_) (a' := ?_) qa31_ rfl rfl (any_of HT_.out (by kernel_rfl)) (fun _ _ _ h => h) (Or.inl ⟨by rfl, ?_⟩) ?_ ?_
   rotate_left
   · intro w'
     go_simp
     with_reducible rfl
   rotate_left
   · simp only [Act.put, List.setIfInBounds_toArray, List.set_cons_zero, List.set_cons_succ, i64_w, i32_w]
     rfl
   refine pure_ (i := 10) (N := some 29) (v := ?_) (a' := ?_) qa34_ rfl rfl (any_of HT_.out (by kernel_rfl)) (fun _ _ _ h => h) (Or.inl ⟨by rfl, ?_⟩) ?_ ?_
   rotate_left
   · intro w'
     go_simp
     with_reducible rfl
   rotate_left
   · simp only [Act.put, List.setIfInBounds_toArray, List.set_cons_zero, List.set_cons_succ, i64_w, i32_w]
     rfl
   refine pure_ (i := 11) (N := some 30) (v := ?_) (a' := ?_) qa37_ rfl rfl (any_of HT_.out (by kernel_rfl)) (fun _ _ _ h => h) (Or.inl ⟨by rfl, ?_⟩) ?_ ?_
   rotate_left
   · intro w'
     go_simp
     with_reducible rfl
   rotate_left
   · simp only [Act.put, List.setIfInBounds_toArray, List.set_cons_zero, List.set_cons_succ, i64_w, i32_w]
     rfl
   refine pure_ (i := 12) (N := some 31) (v := undef) (a' := ?_) qa40_ rfl rfl (any_of HT_.out (by kernel_rfl)) (fun _ _ _ h => h) (Or.inr ⟨by rfl, rfl⟩) ?_ ?_
   rotate_left
   · simp only [Act.put, List.setIfInBounds_toArray, List.set_cons_zero, List.set_cons_succ, i64_w, i32_w]
     rfl
   refine pure_ (i := 13) (N := some 32) (v := undef) (a' := ?_) qa42_ rfl rfl (any_of HT_.out (by kernel_rfl)) (fun _ _ _ h => h) (Or.inr ⟨by rfl, rfl⟩) ?_ ?_
   rotate_left
   · simp only [Act.put, List.setIfInBounds_toArray, List.set_cons_zero, List.set_cons_succ, i64_w, i32_w]
     rfl
   refine pure_ (i := 14) (N := some 33) (v := undef) (a' := ?_) qa44_ rfl rfl (any_of HT_.out (by kernel_rfl)) (fun _ _ _ h => h) (Or.inr ⟨by rfl, rfl⟩) ?_ ?_
   rotate_left
   · simp only [Act.put, List.setIfInBounds_toArray, List.set_cons_zero, List.set_cons_succ, i64_w, i32_w]
     rfl
   refine pure_ (i := 15) (N := some 34) (v := ?_) (a' := ?_) qa46_ rfl rfl (any_of HT_.out (by kernel_rfl)) (fun _ _ _ h => h) (Or.inl ⟨by rfl, ?_⟩) ?_ ?_
   rotate_left
   · intro w'
     go_simp
     with_reducible rfl
   rotate_left
   · simp only [Act.put, List.setIfInBounds_toArray, List.set_cons_zero, List.set_cons_succ, i64_w, i32_w]
     rfl
   refine pure_ (i := 16) (N := some 35) (v := ?_) (a' := ?_) qa48_ rfl rfl (any_of HT_.out (by kernel_rfl)) (fun _ _ _ h => h) (Or.inl ⟨by rfl, ?_⟩) ?_ ?_
   rotate_left
   · intro w'
     go_simp
     with_reducible rfl
   rotate_left
   · simp only [Act.put, List.setIfInBounds_toArray, List.set_cons_zero, List.set_cons_succ, i64_w, i32_w]
     rfl
   refine pure_ (i := 17) (N := some 36) (v := undef) (a' := ?_) qa50_ rfl rfl (any_of HT_.out (by kernel_rfl)) (fun _ _ _ h => h) (Or.inr ⟨by rfl, rfl⟩) ?_ ?_
   rotate_left
   · simp only [Act.put, List.setIfInBounds_toArray, List.set_cons_zero, List.set_cons_succ, i64_w, i32_w]
     rfl
   refine pure_ (i := 18) (N := some 37) (v := undef) (a' := ?_) qa51_ rfl rfl (any_of HT_.out (by kernel_rfl)) (fun _ _ _ h => h) (Or.inr ⟨by rfl, rfl⟩) ?_ ?_
   rotate_left
   · simp only [Act.put, List.setIfInBounds_toArray, List.set_cons_zero, List.set_cons_succ, i64_w, i32_w]
     rfl
   refine pure_ (i := 19) (N := some 38) (v := undef) (a' := ?_) qa52_ rfl rfl (any_of HT_.out (by kernel_rfl)) (fun _ _ _ h => h) (Or.inr ⟨by rfl, rfl⟩) ?_ ?_
   rotate_left
   · simp only [Act.put, List.setIfInBounds_toArray, List.set_cons_zero, List.set_cons_succ, i64_w, i32_w]
     rfl
   refine pure_ (i := 20) (N := some 39) (v := ?_) (a' := ?_) qa53_ rfl rfl (any_of HT_.out (by kernel_rfl)) (fun _ _ _ h => h) (Or.inl ⟨by rfl, ?_⟩) ?_ ?_
   rotate_left
   · intro w'
     go_simp
     with_reducible rfl
   rotate_left
   · simp only [Act.put, List.setIfInBounds_toArray, List.set_cons_zero, List.set_cons_succ, i64_w, i32_w]
     rfl
   refine pure_ (i := 21) (N := some 40) (v := ?_) (a' := ?_) qa54_ rfl rfl (any_of HT_.out (by kernel_rfl)) (fun _ _ _ h => h) (Or.inl ⟨by rfl, ?_⟩) ?_ ?_
   rotate_left
   · intro w'
     go_simp
     with_reducible rfl
   rotate_left
   · simp only [Act.put, List.setIfInBounds_toArray, List.set_cons_zero, List.set_cons_succ, i64_w, i32_w]
     rfl
   refine pure_ (i := 22) (N := some 41) (v := undef) (a' := ?_) qa55_ rfl rfl (any_of HT_.out (by kernel_rfl)) (fun _ _ _ h => h) (Or.inr ⟨by rfl, rfl⟩) ?_ ?_
   rotate_left
   · simp only [Act.put, List.setIfInBounds_toArray, List.set_cons_zero, List.set_cons_succ, i64_w, i32_w]
     rfl
   refine pure_ (i := 23) (N := some 42) (v := undef) (a' := ?_) qa56_ rfl rfl (any_of HT_.out (by kernel_rfl)) (fun _ _ _ h => h) (Or.inr ⟨by rfl, rfl⟩) ?_ ?_
   rotate_left
   · simp only [Act.put, List.setIfInBounds_toArray, List.set_cons_zero, List.set_cons_succ, i64_w, i32_w]
     rfl
   refine pure_ (i := 24) (N := some 43) (v := undef) (a' := ?_) qa57_ rfl rfl (any_of HT_.out (by kernel_rfl)) (fun _ _ _ h => h) (Or.inr ⟨by rfl, rfl⟩) ?_ ?_
   rotate_left
   · simp only [Act.put, List.setIfInBounds_toArray, List.set_cons_zero, List.set_cons_succ, i64_w, i32_w]
     rfl
   refine pure_ (i := 25) (N := some 44) (v := undef) (a' := ?_) qa58_ rfl rfl (any_of HT_.out (by kernel_rfl)) (fun _ _ _ h => h) (Or.inr ⟨by rfl, rfl⟩) ?_ ?_
   rotate_left
   · simp only [Act.put, List.setIfInBounds_toArray, List.set_cons_zero, List.set_cons_succ, i64_w, i32_w]
     rfl
   refine pure_ (i := 26) (N := some 45) (v := undef) (a' := ?_) qa63_ rfl rfl (any_of HT_.out (by kernel_rfl)) (fun _ _ _ h => h) (Or.inr ⟨by rfl, rfl⟩) ?_ ?_
   rotate_left
   · simp only [Act.put, List.setIfInBounds_toArray, List.set_cons_zero, List.set_cons_succ, i64_w, i32_w]
     rfl
   refine pure_ (i := 27) (N := some 46) (v := undef) (a' := ?_) qa64_ rfl rfl (any_of HT_.out (by kernel_rfl)) (fun _ _ _ h => h) (Or.inr ⟨by rfl, rfl⟩) ?_ ?_
   rotate_left
   · simp only [Act.put, List.setIfInBounds_toArray, List.set_cons_zero, List.set_cons_succ, i64_w, i32_w]
     rfl
   refine pure_ (i := 28) (N := some 47) (v := undef) (a' := ?_) qa65_ rfl rfl (any_of HT_.out (by kernel_rfl)) (fun _ _ _ h => h) (Or.inr ⟨by rfl, rfl⟩) ?_ ?_
   rotate_left
   · simp only [Act.put, List.setIfInBounds_toArray, List.set_cons_zero, List.set_cons_succ, i64_w, i32_w]
     rfl
   refine pure_ (i := 29) (N := some 48) (v := undef) (a' := ?_) qa66_ rfl rfl (any_of HT_.out (by kernel_rfl)) (fun _ _ _ h => h) (Or.inr ⟨by rfl, rfl⟩) ?_ ?_
   rotate_left
   · simp only [Act.put, List.setIfInBounds_toArray, List.set_cons_zero, List.set_cons_succ, i64_w, i32_w]
     rfl
   refine pure_ (i := 30) (N := some 49) (v := undef) (a' := ?_) qa67_ rfl rfl (any_of HT_.out (by kernel_rfl)) (fun _ _ _ h => h) (Or.inr ⟨by rfl, rfl⟩) ?_ ?_
   rotate_left
   · simp only [Act.put, List.setIfInBounds_toArray, List.set_cons_zero, List.set_cons_succ, i64_w, i32_w]
     rfl
   refine pure_ (i := 31) (N := some 50) (v := undef) (a' := ?_) qa68_ rfl rfl (any_of HT_.out (by kernel_rfl)) (fun _ _ _ h => h) (Or.inr ⟨by rfl, rfl⟩) ?_ ?_
   rotate_left
   · simp only [Act.put, List.setIfInBounds_toArray, List.set_cons_zero, List.set_cons_succ, i64_w, i32_w]
     rfl
   refine pure_ (i := 32) (N := some 51) (v := undef) (a' := ?_) qa69_ rfl rfl (any_of HT_.out (by kernel_rfl)) (fun _ _ _ h => h) (Or.inr ⟨by rfl, rfl⟩) ?_ ?_
   rotate_left
   · simp only [Act.put, List.setIfInBounds_toArray, List.set_cons_zero, List.set_cons_succ, i64_w, i32_w]
     rfl
   refine pure_ (i := 33) (N := some 52) (v := ?_) (a' := ?_) qa70_ rfl rfl (any_of HT_.out (by kernel_rfl)) (fun _ _ _ h => h) (Or.inl ⟨by rfl, ?_⟩) ?_ ?_
   rotate_left
   · intro w'
     go_simp
     with_reducible rfl
   rotate_left
   · simp only [Act.put, List.setIfInBounds_toArray, List.set_cons_zero, List.set_cons_succ, i64_w, i32_w]
     rfl
   refine done_ (done_of HT_.out (by kernel_rfl)) ?_
   try go_wp2
   go_meet
   case rel => exact ⟨_, (true), (by first | rfl | (simp; done) | (simp [*]; done)), H', ⟨by first | omega | exact Nat.le_refl _⟩, ⟨by repeat (first | (with_reducible first | exact HB.out | apply bA_ | apply bN_ | apply b1_) | exact HB.out)⟩⟩
  rw [if_pos c12] at H
  have c12b0 : decide (t473 < 0) = true := decide_eq_true c12
  clear c12
  (first | rw [c12b0] | (simp only [i64_w, i32_w]; rw [c12b0]) | skip)
  have H' := Aside0.mk H
  clear H
  try go_wp2
  have n0_ := Aside0.mk (below_drew1 HB.out)
  clear HB
  have HB := n0_
  clear n0_
  refine start_ (n := 34) (S := fun w' => True) (ds := []) qa0_ (by kernel_rfl) rfl rfl trivial (fun hHeld => ?_); refine with_tabW impl_ShareCrew.tab2 impl_ShareCrew.bits2 (fun HT_ HW_ => ?_)
  generalize w9.drew = w13 at HB hHeld ⊢
  refine pure_ (i := 0) (N := some 19) (v := ?_) (a' := ?_) qa3_ rfl rfl (any_of HT_.out (by kernel_rfl)) (fun _ _ _ h => h) (Or.inl ⟨by rfl, ?_⟩) ?_ ?_
  rotate_left
  · intro w'
    go_simp
    with_reducible rfl
  rotate_left
  · simp only [Act.put, List.setIfInBounds_toArray, List.set_cons_zero, List.set_cons_succ, i64_w, i32_w]
    rfl
  refine one_ (i := 1) (N := some 20) qa6_ rfl rfl (one_of HT_.out (by kernel_rfl)) (by decide) (fun K hK => ?_)
  refine goes_ Try.func63 (by kernel_rfl) rfl #[.slice A0 l0.length c0] (by rfl) rfl rfl (by (try simp only [List.map_toArray, List.map_cons, List.map_nil]); first | done | rfl) ?_
  with_reducible refine (impl_isFleet.calls k _ _ l0 true _ ?side1 ?side2 A10.out).mono ?_
  (case side1 => repeat (first | exact (Kd.C_below HR0.out HB.out) | (with_reducible refine Kd.C_alloc ?_ _) | (with_reducible refine Kd.C_drewN ?_ _) | (with_reducible refine Kd.C_drew ?_)))
  (case side2 => exact HC0.out)
  rintro e w14 ⟨rfl, hb⟩
  refine ⟨_, rfl, ?_⟩
  have n0_ := Aside0.mk (below_step (by repeat (first | (with_reducible first | exact HB.out | apply bA_ | apply bN_ | apply b1_) | exact HB.out)) hb)
  clear HB
  have HB := n0_
  clear n0_
  (try clear hb)
  (try clear hb2)
  (try clear hk)
  (try clear hi)
  refine hK.out _ _ trivial (fun hHeld => ?_)
  clear hK K
  refine norm_ (a' := ?_) ?_ ?_
  rotate_left
  · show Act.put _ (some 20) _ = _
    simp only [Act.put, List.setIfInBounds_toArray, List.set_cons_zero, List.set_cons_succ, i64_w, i32_w]
    rfl
  refine pure_ (i := 2) (N := some 21) (v := ?_) (a' := ?_) qa9_ rfl rfl (any_of HT_.out (by kernel_rfl)) (fun _ _ _ h => h) (Or.inl ⟨by rfl, ?_⟩) ?_ ?_
  rotate_left
  · intro w'
    go_simp
    with_reducible rfl
  rotate_left
  · simp only [Act.put, List.setIfInBounds_toArray, List.set_cons_zero, List.set_cons_succ, i64_w, i32_w]
    rfl
  refine pure_ (i := 3) (N := some 22) (v := ?_) (a' := ?_) qa15_ rfl rfl (any_of HT_.out (by kernel_rfl)) (fun _ _ _ h => h) (Or.inl ⟨by rfl, ?_⟩) ?_ ?_
  rotate_left
  · intro w'
    go_simp
    with_reducible rfl
  rotate_left
  · simp only [Act.put, List.setIfInBounds_toArray, List.set_cons_zero, List.set_cons_succ, i64_w, i32_w]
    rfl
  refine pure_ (i := 4) (N := some 23) (v := ?_) (a' := ?_) qa17_ rfl rfl (any_of HT_.out (by kernel_rfl)) (fun _ _ _ h => h) (Or.inl ⟨by rfl, ?_⟩) ?_ ?_
  rotate_left
  · intro w'
    go_simp
    with_reducible rfl
  rotate_left
  · simp only [Act.put, List.setIfInBounds_toArray, List.set_cons_zero, List.set_cons_succ, i64_w, i32_w]
    rfl
  refine pure_ (i := 5) (N := some 24) (v := ?_) (a' := ?_) qa19_ rfl rfl (any_of HT_.out (by kernel_rfl)) (fun _ _ _ h => h) (Or.inl ⟨by rfl, ?_⟩) ?_ ?_
  rotate_left
  · intro w'
    go_simp
    with_reducible rfl
  rotate_left
  · simp only [Act.put, List.setIfInBounds_toArray, List.set_cons_zero, List.set_cons_succ, i64_w, i32_w]
    rfl
  refine pure_ (i := 6) (N := some 25) (v := ?_) (a' := ?_) qa21_ rfl rfl (any_of HT_.out (by kernel_rfl)) (fun _ _ _ h => h) (Or.inl ⟨by rfl, ?_⟩) ?_ ?_
  rotate_left
  · intro w'
    go_simp
    with_reducible rfl
  rotate_left
  · simp only [Act.put, List.setIfInBounds_toArray, List.set_cons_zero, List.set_cons_succ, i64_w, i32_w]
    rfl
  refine pure_ (i := 7) (N := some 26) (v := ?_) (a' := ?_) qa24_ rfl rfl (any_of HT_.out (by kernel_rfl)) (fun _ _ _ h => h) (Or.inl ⟨by rfl, ?_⟩) ?_ ?_
  rotate_left
  · intro w'
    go_simp
    with_reducible rfl
  rotate_left
  · simp only [Act.put, List.setIfInBounds_toArray, List.set_cons_zero, List.set_cons_succ, i64_w, i32_w]
    rfl
  refine pure_ (i := 8) (N := some 27) (v := undef) (a' := ?_) qa28_ rfl rfl (any_of HT_.out (by kernel_rfl)) (fun _ _ _ h => h) (Or.inr ⟨by rfl, rfl⟩) ?_ ?_
  rotate_left
  · simp only [Act.put, List.setIfInBounds_toArray, List.set_cons_zero, List.set_cons_succ, i64_w, i32_w]
    rfl
  refine pure_ (i := 9) (N := some 28) (v := undef) (a' := ?_) qa31_ rfl rfl (any_of HT_.out (by kernel_rfl)) (fun _ _ _ h => h) (Or.inr ⟨by rfl, rfl⟩) ?_ ?_
  rotate_left
  · simp only [Act.put, List.setIfInBounds_toArray, List.set_cons_zero, List.set_cons_succ, i64_w, i32_w]
    rfl
  refine pure_ (i := 10) (N := some 29) (v := ?_) (a' := ?_) qa34_ rfl rfl (any_of HT_.out (by kernel_rfl)) (fun _ _ _ h => h) (Or.inl ⟨by rfl, ?_⟩) ?_ ?_
  rotate_left
  · intro w'
    go_simp
    with_reducible rfl
  rotate_left
  · simp only [Act.put, List.setIfInBounds_toArray, List.set_cons_zero, List.set_cons_succ, i64_w, i32_w]
    rfl
  refine pure_ (i := 11) (N := some 30) (v := ?_) (a' := ?_) qa37_ rfl rfl (any_of HT_.out (by kernel_rfl)) (fun _ _ _ h => h) (Or.inl ⟨by rfl, ?_⟩) ?_ ?_
  rotate_left
  · intro w'
    go_simp
    with_reducible rfl
  rotate_left
  · simp only [Act.put, List.setIfInBounds_toArray, List.set_cons_zero, List.set_cons_succ, i64_w, i32_w]
    rfl
  refine pure_ (i := 12) (N := some 31) (v := undef) (a' := ?_) qa40_ rfl rfl (any_of HT_.out (by kernel_rfl)) (fun _ _ _ h => h) (Or.inr ⟨by rfl, rfl⟩) ?_ ?_
  rotate_left
  · simp only [Act.put, List.setIfInBounds_toArray, List.set_cons_zero, List.set_cons_succ, i64_w, i32_w]
    rfl
  refine pure_ (i := 13) (N := some 32) (v := undef) (a' := ?_) qa42_ rfl rfl (any_of HT_.out (by kernel_rfl)) (fun _ _ _ h => h) (Or.inr ⟨by rfl, rfl⟩) ?_ ?_
  rotate_left
  · simp only [Act.put, List.setIfInBounds_toArray, List.set_cons_zero, List.set_cons_succ, i64_w, i32_w]
    rfl
  refine pure_ (i := 14) (N := some 33) (v := undef) (a' := ?_) qa44_ rfl rfl (any_of HT_.out (by kernel_rfl)) (fun _ _ _ h => h) (Or.inr ⟨by rfl, rfl⟩) ?_ ?_
  rotate_left
  · simp only [Act.put, List.setIfInBounds_toArray, List.set_cons_zero, List.set_cons_succ, i64_w, i32_w]
    rfl
  refine pure_ (i := 15) (N := some 34) (v := ?_) (a' := ?_) qa46_ rfl rfl (any_of HT_.out (by kernel_rfl)) (fun _ _ _ h => h) (Or.inl ⟨by rfl, ?_⟩) ?_ ?_
  rotate_left
  · intro w'
    go_simp
    with_reducible rfl
  rotate_left
  · simp only [Act.put, List.setIfInBounds_toArray, List.set_cons_zero, List.set_cons_succ, i64_w, i32_w]
    rfl
  refine pure_ (i := 16) (N := some 35) (v := ?_) (a' := ?_) qa48_ rfl rfl (any_of HT_.out (by kernel_rfl)) (fun _ _ _ h => h) (Or.inl ⟨by rfl, ?_⟩) ?_ ?_
  rotate_left
  · intro w'
    go_simp
    with_reducible rfl
  rotate_left
  · simp only [Act.put, List.setIfInBounds_toArray, List.set_cons_zero, List.set_cons_succ, i64_w, i32_w]
    rfl
  refine pure_ (i := 17) (N := some 36) (v := undef) (a' := ?_) qa50_ rfl rfl (any_of HT_.out (by kernel_rfl)) (fun _ _ _ h => h) (Or.inr ⟨by rfl, rfl⟩) ?_ ?_
  rotate_left
  · simp only [Act.put, List.setIfInBounds_toArray, List.set_cons_zero, List.set_cons_succ, i64_w, i32_w]
    rfl
  refine pure_ (i := 18) (N := some 37) (v := undef) (a' := ?_) qa51_ rfl rfl (any_of HT_.out (by kernel_rfl)) (fun _ _ _ h => h) (Or.inr ⟨by rfl, rfl⟩) ?_ ?_
  rotate_left
  · simp only [Act.put, List.setIfInBounds_toArray, List.set_cons_zero, List.set_cons_succ, i64_w, i32_w]
    rfl
  refine pure_ (i := 19) (N := some 38) (v := undef) (a' := ?_) qa52_ rfl rfl (any_of HT_.out (by kernel_rfl)) (fun _ _ _ h => h) (Or.inr ⟨by rfl, rfl⟩) ?_ ?_
  rotate_left
  · simp only [Act.put, List.setIfInBounds_toArray, List.set_cons_zero, List.set_cons_succ, i64_w, i32_w]
    rfl
  refine pure_ (i := 20) (N := some 39) (v := ?_) (a' := ?_) qa53_ rfl rfl (any_of HT_.out (by kernel_rfl)) (fun _ _ _ h => h) (Or.inl ⟨by rfl, ?_⟩) ?_ ?_
  rotate_left
  · intro w'
    go_simp
    with_reducible rfl
  rotate_left
  · simp only [Act.put, List.setIfInBounds_toArray, List.set_cons_zero, List.set_cons_succ, i64_w, i32_w]
    rfl
  refine pure_ (i := 21) (N := some 40) (v := ?_) (a' := ?_) qa54_ rfl rfl (any_of HT_.out (by kernel_rfl)) (fun _ _ _ h => h) (Or.inl ⟨by rfl, ?_⟩) ?_ ?_
  rotate_left
  · intro w'
    go_simp
    with_reducible rfl
  rotate_left
  · simp only [Act.put, List.setIfInBounds_toArray, List.set_cons_zero, List.set_cons_succ, i64_w, i32_w]
    rfl
  refine pure_ (i := 22) (N := some 41) (v := undef) (a' := ?_) qa55_ rfl rfl (any_of HT_.out (by kernel_rfl)) (fun _ _ _ h => h) (Or.inr ⟨by rfl, rfl⟩) ?_ ?_
  rotate_left
  · simp only [Act.put, List.setIfInBounds_toArray, List.set_cons_zero, List.set_cons_succ, i64_w, i32_w]
    rfl
  refine pure_ (i := 23) (N := some 42) (v := undef) (a' := ?_) qa56_ rfl rfl (any_of HT_.out (by kernel_rfl)) (fun _ _ _ h => h) (Or.inr ⟨by rfl, rfl⟩) ?_ ?_
  rotate_left
  · simp only [Act.put, List.setIfInBounds_toArray, List.set_cons_zero, List.set_cons_succ, i64_w, i32_w]
    rfl
  refine pure_ (i := 24) (N := some 43) (v := undef) (a' := ?_) qa57_ rfl rfl (any_of HT_.out (by kernel_rfl)) (fun _ _ _ h => h) (Or.inr ⟨by rfl, rfl⟩) ?_ ?_
  rotate_left
  · simp only [Act.put, List.setIfInBounds_toArray, List.set_cons_zero, List.set_cons_succ, i64_w, i32_w]
    rfl
  refine pure_ (i := 25) (N := some 44) (v := undef) (a' := ?_) qa58_ rfl rfl (any_of HT_.out (by kernel_rfl)) (fun _ _ _ h => h) (Or.inr ⟨by rfl, rfl⟩) ?_ ?_
  rotate_left
  · simp only [Act.put, List.setIfInBounds_toArray, List.set_cons_zero, List.set_cons_succ, i64_w, i32_w]
    rfl
  refine pure_ (i := 26) (N := some 45) (v := undef) (a' := ?_) qa63_ rfl rfl (any_of HT_.out (by kernel_rfl)) (fun _ _ _ h => h) (Or.inr ⟨by rfl, rfl⟩) ?_ ?_
  rotate_left
  · simp only [Act.put, List.setIfInBounds_toArray, List.set_cons_zero, List.set_cons_succ, i64_w, i32_w]
    rfl
  refine pure_ (i := 27) (N := some 46) (v := undef) (a' := ?_) qa64_ rfl rfl (any_of HT_.out (by kernel_rfl)) (fun _ _ _ h => h) (Or.inr ⟨by rfl, rfl⟩) ?_ ?_
  rotate_left
  · simp only [Act.put, List.setIfInBounds_toArray, List.set_cons_zero, List.set_cons_succ, i64_w, i32_w]
    rfl
  refine pure_ (i := 28) (N := some 47) (v := undef) (a' := ?_) qa65_ rfl rfl (any_of HT_.out (by kernel_rfl)) (fun _ _ _ h => h) (Or.inr ⟨by rfl, rfl⟩) ?_ ?_
  rotate_left
  · simp only [Act.put, List.setIfInBounds_toArray, List.set_cons_zero, List.set_cons_succ, i64_w, i32_w]
    rfl
  refine pure_ (i := 29) (N := some 48) (v := undef) (a' := ?_) qa66_ rfl rfl (any_of HT_.out (by kernel_rfl)) (fun _ _ _ h => h) (Or.inr ⟨by rfl, rfl⟩) ?_ ?_
  rotate_left
  · simp only [Act.put, List.setIfInBounds_toArray, List.set_cons_zero, List.set_cons_succ, i64_w, i32_w]
    rfl
  refine pure_ (i := 30) (N := some 49) (v := undef) (a' := ?_) qa67_ rfl rfl (any_of HT_.out (by kernel_rfl)) (fun _ _ _ h => h) (Or.inr ⟨by rfl, rfl⟩) ?_ ?_
  rotate_left
  · simp only [Act.put, List.setIfInBounds_toArray, List.set_cons_zero, List.set_cons_succ, i64_w, i32_w]
    rfl
  refine pure_ (i := 31) (N := some 50) (v := undef) (a' := ?_) qa68_ rfl rfl (any_of HT_.out (by kernel_rfl)) (fun _ _ _ h => h) (Or.inr ⟨by rfl, rfl⟩) ?_ ?_
  rotate_left
  · simp only [Act.put, List.setIfInBounds_toArray, List.set_cons_zero, List.set_cons_succ, i64_w, i32_w]
    rfl
  refine pure_ (i := 32) (N := some 51) (v := undef) (a' := ?_) qa69_ rfl rfl (any_of HT_.out (by kernel_rfl)) (fun _ _ _ h => h) (Or.inr ⟨by rfl, rfl⟩) ?_ ?_
  rotate_left
  · simp only [Act.put, List.setIfInBounds_toArray, List.set_cons_zero, List.set_cons_succ, i64_w, i32_w]
    rfl
  refine pure_ (i := 33) (N := some 52) (v := ?_) (a' := ?_) qa70_ rfl rfl (any_of HT_.out (by kernel_rfl)) (fun _ _ _ h => h) (Or.inl ⟨by rfl, ?_⟩) ?_ ?_
  rotate_left
  · intro w'
    go_simp
    with_reducible rfl
  rotate_left
  · simp only [Act.put, List.setIfInBounds_toArray, List.set_cons_zero, List.set_cons_succ, i64_w, i32_w]
    rfl
  refine done_ (done_of HT_.out (by kernel_rfl)) ?_
  try go_wp2
  go_meet
  case rel => exact ⟨_, (true), (by first | rfl | (simp; done) | (simp [*]; done)), H', ⟨by first | omega | exact Nat.le_refl _⟩, ⟨by repeat (first | (with_reducible first | exact HB.out | apply bA_ | apply bN_ | apply b1_) | exact HB.out)⟩⟩
 case rest =>
  clear HC7
  try clear c1
  try clear c2
  try clear p2
  try clear c6
  try clear c7
  try clear c11
  try clear c22
  try clear c23
  try clear c24
  try clear c25
  try clear c26
  obtain ⟨kq, x52_6, rfl, HA, HJ6, HB⟩ := hcut
  cases kq with
  | zero => exact absurd HA.out (by simp [impl_ShareCrew.j0])
  | succ kj6 =>
   have H := HA.out
   clear HA
   simp only [impl_ShareCrew.j0] at H
   by_cases c33 : x52_6 = true
   case neg =>
    replace c33 := Bool.eq_false_iff.mpr c33
    subst c33
    have H1 : ((impl_Appliance_72.f l0).bind fun t479 => (if 0 ≤ t473 then (if t473 < (t479.length : Int) then ((some (t479.set (t473 : Int).toNat (⟨(rd_T26 t479 t473).f0, (rd_T26 t479 t473).f1, (rd_T26 t479 t473).f2, wrap64 (((rd_T26 t479 t473).f3) - a3), (rd_T26 t479 t473).f4⟩ : S26) : List (S26))).bind fun y483 => (if 0 ≤ t474 then (if t474 < (t479.length : Int) then ((some (y483.set (t474 : Int).toNat (⟨(rd_T26 y483 t474).f0, (rd_T26 y483 t474).f1, (rd_T26 y483 t474).f2, wrap64 (((rd_T26 y483 t474).f3) + a3), (rd_T26 y483 t474).f4⟩ : S26) : List (S26))).bind fun y485 => ((impl_isFleet.f kj6 y485).bind fun t486 => (if t486 = true then (some (y485, true)) else (some (([] : List (S26)), false))))) else (none)) else (none))) else (none)) else (none))) = some (r1, r2) := by rw [if_neg (show ¬ (false = true) by decide)] at H; exact H
    clear H
    have H := H1
    clear H1
    replace H := Option.bind_eq_some_iff.mp H
    obtain ⟨t479, A340, H⟩ := H
    replace H : (if 0 ≤ t473 then (if t473 < (t479.length : Int) then ((some (t479.set (t473 : Int).toNat (⟨(rd_T26 t479 t473).f0, (rd_T26 t479 t473).f1, (rd_T26 t479 t473).f2, wrap64 (((rd_T26 t479 t473).f3) - a3), (rd_T26 t479 t473).f4⟩ : S26) : List (S26))).bind fun y483 => (if 0 ≤ t474 then (if t474 < (t479.length : Int) then ((some (y483.set (t474 : Int).toNat (⟨(rd_T26 y483 t474).f0, (rd_T26 y483 t474).f1, (rd_T26 y483 t474).f2, wrap64 (((rd_T26 y483 t474).f3) + a3), (rd_T26 y483 t474).f4⟩ : S26) : List (S26))).bind fun y485 => ((impl_isFleet.f kj6 y485).bind fun t486 => (if t486 = true then (some (y485, true)) else (some (([] : List (S26)), false))))) else (none)) else (none))) else (none)) else (none)) = some (r1, r2) := H
    have A34 := Aside0.mk A340
    clear A340
    by_cases c35 : 0 ≤ t473
    case neg =>
     rw [if_neg c35] at H
     exact absurd H (by simp)
    rw [if_pos c35] at H
    have c35b0 : decide (0 ≤ t473) = true := decide_eq_true c35
    clear c35
    by_cases c36 : t473 < (t479.length : Int)
    case neg =>
     rw [if_neg c36] at H
     exact absurd H (by simp)
    rw [if_pos c36] at H
    have c36b0 : decide (t473 < (t479.length : Int)) = true := decide_eq_true c36
    clear c36
    obtain ⟨y483, hy483⟩ : ∃ y_ : List (S26), y_ = (t479.set (t473 : Int).toNat (⟨(rd_T26 t479 t473).f0, (rd_T26 t479 t473).f1, (rd_T26 t479 t473).f2, wrap64 (((rd_T26 t479 t473).f3) - a3), (rd_T26 t479 t473).f4⟩ : S26)) := ⟨_, rfl⟩
    replace H : (if 0 ≤ t474 then (if t474 < (t479.length : Int) then ((some (y483.set (t474 : Int).toNat (⟨(rd_T26 y483 t474).f0, (rd_T26 y483 t474).f1, (rd_T26 y483 t474).f2, wrap64 (((rd_T26 y483 t474).f3) + a3), (rd_T26 y483 t474).f4⟩ : S26) : List (S26))).bind fun y485 => ((impl_isFleet.f kj6 y485).bind fun t486 => (if t486 = true then (some (y485, true)) else (some (([] : List (S26)), false))))) else (none)) else (none)) = some (r1, r2) := by first | (rw [hy483]; with_reducible exact H) | (have H2_ := (Option.bind_some _ _).symm.trans H; rw [hy483]; with_reducible exact H2_) | (have H2_ := (Option.bind_some _ _).symm.trans H; with_reducible exact H2_) | with_reducible exact H | (rw [hy483]; exact H) | exact H
    have Ny483 := Aside0.mk hy483
    clear hy483
    by_cases c38 : 0 ≤ t474
    case neg =>
     rw [if_neg c38] at H
     exact absurd H (by simp)
    rw [if_pos c38] at H
    have c38b0 : decide (0 ≤ t474) = true := decide_eq_true c38
    clear c38
    by_cases c39 : t474 < (t479.length : Int)
    case neg =>
     rw [if_neg c39] at H
     exact absurd H (by simp)
    rw [if_pos c39] at H
    have c39b0 : decide (t474 < (t479.length : Int)) = true := decide_eq_true c39
    clear c39
    obtain ⟨y485, hy485⟩ : ∃ y_ : List (S26), y_ = (y483.set (t474 : Int).toNat (⟨(rd_T26 y483 t474).f0, (rd_T26 y483 t474).f1, (rd_T26 y483 t474).f2, wrap64 (((rd_T26 y483 t474).f3) + a3), (rd_T26 y483 t474).f4⟩ : S26)) := ⟨_, rfl⟩
    replace H : ((impl_isFleet.f kj6 y485).bind fun t486 => (if t486 = true then (some (y485, true)) else (some (([] : List (S26)), false)))) = some (r1, r2) := by first | (rw [hy485]; with_reducible exact H) | (have H2_ := (Option.bind_some _ _).symm.trans H; rw [hy485]; with_reducible exact H2_) | (have H2_ := (Option.bind_some _ _).symm.trans H; with_reducible exact H2_) | with_reducible exact H | (rw [hy485]; exact H) | exact H
    have Ny485 := Aside0.mk hy485
    clear hy485
    replace H := Option.bind_eq_some_iff.mp H
    obtain ⟨t486, A410, H⟩ := H
    replace H : (if t486 = true then (some (y485, true)) else (some (([] : List (S26)), false))) = some (r1, r2) := H
    have A41 := Aside0.mk A410
    clear A410
    by_cases c42 : t486 = true
    case neg =>
     replace c42 := Bool.eq_false_iff.mpr c42
     subst c42
     have H1 : (some (([] : List (S26)), false)) = some (r1, r2) := by rw [if_neg (show ¬ (false = true) by decide)] at H; exact H
     clear H
     have H := H1
     clear H1
     simp only [Option.some.injEq, Prod.mk.injEq] at H
     obtain ⟨rfl, rfl⟩ := H
     go_wp2_with (first | ((with_reducible refine gate_callee (f := 72) rfl ?_); refine goesL_ (some 54) rfl rfl Try.func72 (by kernel_rfl) rfl #[.slice A0 l0.length c0] rfl (by (try simp only [List.map_toArray, List.map_cons, List.map_nil]); first | done | rfl) ?_; (with_reducible refine (impl_Appliance_72.calls _ _ l0 t479 _ ?side1 ?side2 A34.out).mono ?_); (case side1 => repeat (first | exact (Kd.C_below HR0.out HB.out) | (with_reducible refine Kd.C_alloc ?_ _) | (with_reducible refine Kd.C_drewN ?_ _) | (with_reducible refine Kd.C_drew ?_))); (case side2 => exact HC0.out); rintro e w50 ⟨v480, rfl, ho0, hb⟩; refine ⟨_, rfl, ?_⟩; have n0_ := Aside0.mk (Kd.R_lower ho0 (below_size (by repeat (first | (with_reducible first | exact HB.out | apply bA_ | apply bN_ | apply b1_) | exact HB.out)))); have n1_ := Aside0.mk (below_step (by repeat (first | (with_reducible first | exact HB.out | apply bA_ | apply bN_ | apply b1_) | exact HB.out)) hb); clear HB; have HO481 := n0_; have HB := n1_; clear n0_ n1_; (try clear hb); (try clear hb2); (try clear hk); (try clear hi); (try clear ho0); obtain ⟨Ao51, co51, eo51⟩ := Kd.R_slice HO481.out; subst eo51; have p482 : 0 ≤ (t473 : Int) := of_decide_eq_true (by first|with_reducible assumption|assumption); have q482 : t473 < (t479.length : Int) := of_decide_eq_true (by first|with_reducible assumption|assumption); obtain ⟨ad482, e482, hx482_0, hx482_1, hx482_2, hx482_3, hx482_4⟩ := at_T26 (Kd.R_reads' HO481.out).2.2 t473 p482 q482; cases e482; replace p482 := eq_true p482; replace q482 := eq_true q482; have p37 : 0 ≤ (t473 : Int) := of_decide_eq_true (by first|with_reducible assumption|assumption); have q37 : (t473 : Int) < ((t479.length : Int) : Int) := of_decide_eq_true (by first|with_reducible assumption|assumption); obtain ⟨go37, co37, eo37, gb37, gl37, cl37, HG37⟩ := Kd.R_form HO481.out (by omega); (first | cases eo37 | (injection eo37 with ea_ en_ ec_; (first | subst ea_ | (injection ea_ with ea_; subst ea_)); subst ec_; clear en_)); have GB37 := Aside0.mk gb37; have GG37 := Aside0.mk HG37; clear gb37 gl37 HG37; (first | simp only [add_plain] at hx482_0 | skip); (first | simp only [add_plain] at hx482_1 | skip); (first | simp only [add_plain] at hx482_2 | skip); (first | simp only [add_plain] at hx482_3 | skip); (first | simp only [add_plain] at hx482_4 | skip); obtain ⟨ce37, hcl37, hM37, hcc37, hfr37⟩ := Kd.R_elem HO481.out z26 (t473 : Int) p37 q37; obtain rfl := k26_openM hM37; have hx37_0 : w50.cell? ⟨go37, (t473 : Int).toNat * 5, none⟩ = some (.string ((rd_T26 t479 t473).f0)) := hcc37 0 _ rfl; have hx37_1 : w50.cell? ⟨go37, (t473 : Int).toNat * 5 + 1, none⟩ = some (.int .i64 ((rd_T26 t479 t473).f1)) := hcc37 1 _ rfl; have hx37_2 : w50.cell? ⟨go37, (t473 : Int).toNat * 5 + 2, none⟩ = some (.int .i64 ((rd_T26 t479 t473).f2)) := hcc37 2 _ rfl; have hx37_3 : w50.cell? ⟨go37, (t473 : Int).toNat * 5 + 3, none⟩ = some (.int .i64 ((rd_T26 t479 t473).f3)) := hcc37 3 _ rfl; have hx37_4 : w50.cell? ⟨go37, (t473 : Int).toNat * 5 + 4, none⟩ = some (.int .i64 ((rd_T26 t479 t473).f4)) := hcc37 4 _ rfl; have hf37_0 : w50.frozen? ⟨go37, (t473 : Int).toNat * 5, none⟩ = false := hfr37 0; have hf37_1 : w50.frozen? ⟨go37, (t473 : Int).toNat * 5 + 1, none⟩ = false := hfr37 1; have hf37_2 : w50.frozen? ⟨go37, (t473 : Int).toNat * 5 + 2, none⟩ = false := hfr37 2; have hf37_3 : w50.frozen? ⟨go37, (t473 : Int).toNat * 5 + 3, none⟩ = false := hfr37 3; have hf37_4 : w50.frozen? ⟨go37, (t473 : Int).toNat * 5 + 4, none⟩ = false := hfr37 4; clear hcl37 hcc37 hfr37 hM37; replace p37 := eq_true p37; replace q37 := eq_true q37; have HX52 := Aside0.mk (show Kd.R k26 26 w50 w.heap.size (fun _ => True) (.slice (some ⟨go37, 0, none⟩) t479.length co51) t479 from (by (with_reducible repeat (first | apply Kd.R_alloc | apply Kd.R_drewN | apply Kd.R_drew)); exact HO481.out)); obtain ⟨ce52, hcl52, hM52, hcc52, hfr52⟩ := Kd.R_elem HX52.out z26 (t473 : Int) (of_decide_eq_true (by first|with_reducible assumption|assumption)) (by have h_ : (t473 : Int) < ((t479.length : Int) : Int) := of_decide_eq_true (by first|with_reducible assumption|assumption); first | exact h_ | (have e_ := (Kd.R_reads' HO481.out).1; omega) | simpa using h_); obtain rfl := k26_openM hM52; have HP52 := Kd.R_seg HX52.out (t473 : Int) (of_decide_eq_true (by first|with_reducible assumption|assumption)) (by have h_ : (t473 : Int) < ((t479.length : Int) : Int) := of_decide_eq_true (by first|with_reducible assumption|assumption); first | exact h_ | (have e_ := (Kd.R_reads' HO481.out).1; omega) | simpa using h_) (seg := [.int .i64 (wrap64 (((rd_T26 t479 t473).f3) - a3))]) (j := 3) hcl52 hcc52 (show 4 ≤ 5 from by decide) (x' := (⟨(rd_T26 t479 t473).f0, (rd_T26 t479 t473).f1, (rd_T26 t479 t473).f2, wrap64 (((rd_T26 t479 t473).f3) - a3), (rd_T26 t479 t473).f4⟩ : S26)) (k26_mkM _ _ _ (⟨(rd_T26 t479 t473).f0, (rd_T26 t479 t473).f1, (rd_T26 t479 t473).f2, wrap64 (((rd_T26 t479 t473).f3) - a3), (rd_T26 t479 t473).f4⟩ : S26) ) (fun _ hk => hk); have hx52_3 := hcc52 3 _ rfl; (try simp only [show (k26).sz = 5 from rfl, Nat.mul_one, Nat.add_zero] at hx52_3); have hf52_3 := hfr52 3; (try simp only [show (k26).sz = 5 from rfl, Nat.mul_one, Nat.add_zero] at hf52_3); clear hcl52 hcc52 hfr52 hM52) | ((with_reducible refine gate_store (t := 3) (p := 63) rfl ?_); refine store_event (t := 3) (p := 63) (v := ?vo_w53) (w1 := (w50.setCell ⟨go37, (t473 : Int).toNat * 5 + 3, none⟩ (.int .i64 (wrap64 (((rd_T26 t479 t473).f3) - a3))))) ?hg ?ho ?hn ?hr ?_; (case ho => rfl); (case hg => rfl); (case hn => rfl); (case hr => first | (go_simp; done) | (go_simp; rfl)); intro w53 hw; have hg : w50.grownBy w53 (some go37) := (by rw [hw]; exact HP52.2); have hp_ : Kd.R k26 26 w53 w.heap.size (fun _ => True) (.slice (some ⟨go37, 0, none⟩) t479.length co51) y483 := (by rw [hw, Ny483.out]; exact HP52.1); clear HP52; have n0_ := Aside0.mk (hp_); have n1_ := Aside0.mk ((by rw [hw]; exact below_set (HB.out) GB37.out : Below w.heap.size w w53)); clear HO481; clear HB; have HO481 := n0_; have HB := n1_; clear n0_ n1_; clear hg hw hp_; have p484 : 0 ≤ (t474 : Int) := of_decide_eq_true (by first|with_reducible assumption|assumption); have q484 : t474 < (y483.length : Int) := (by have h_ : (t474 : Int) < ((t479.length : Int) : Int) := of_decide_eq_true (by first|with_reducible assumption|assumption); first | (have e_ := (Kd.R_reads' HO481.out).1; omega) | simpa only [Ny483.out, List.length_set] using h_); have ql484 : ((t474 : Int) < ((t479.length : Int) : Int)) = True := eq_true (of_decide_eq_true (by first|with_reducible assumption|assumption)); obtain ⟨ad484, e484, hx484_0, hx484_1, hx484_2, hx484_3, hx484_4⟩ := at_T26 (Kd.R_reads' HO481.out).2.2 t474 p484 q484; obtain rfl : (⟨go37, 0, none⟩ : Addr) = ad484 := (by injection e484); (first | simp only [add_plain] at hx484_0 | simp only [add_at] at hx484_0 | simp only [Addr.add, Nat.zero_add] at hx484_0 | skip); (first | simp only [add_plain] at hx484_1 | simp only [add_at] at hx484_1 | simp only [Addr.add, Nat.zero_add] at hx484_1 | skip); (first | simp only [add_plain] at hx484_2 | simp only [add_at] at hx484_2 | simp only [Addr.add, Nat.zero_add] at hx484_2 | skip); (first | simp only [add_plain] at hx484_3 | simp only [add_at] at hx484_3 | simp only [Addr.add, Nat.zero_add] at hx484_3 | skip); (first | simp only [add_plain] at hx484_4 | simp only [add_at] at hx484_4 | simp only [Addr.add, Nat.zero_add] at hx484_4 | skip); replace p484 := eq_true p484; replace q484 := eq_true q484; have p40 : 0 ≤ (t474 : Int) := of_decide_eq_true (by first|with_reducible assumption|assumption); have q40 : (t474 : Int) < ((t479.length : Int) : Int) := of_decide_eq_true (by first|with_reducible assumption|assumption); obtain ⟨ce40, hcl40, hM40, hcc40, hfr40⟩ := Kd.R_elem HO481.out z26 (t474 : Int) p40 q40; obtain rfl := k26_openM hM40; have hx40_0 : w53.cell? ⟨go37, (t474 : Int).toNat * 5, none⟩ = some (.string ((rd_T26 y483 t474).f0)) := hcc40 0 _ rfl; have hx40_1 : w53.cell? ⟨go37, (t474 : Int).toNat * 5 + 1, none⟩ = some (.int .i64 ((rd_T26 y483 t474).f1)) := hcc40 1 _ rfl; have hx40_2 : w53.cell? ⟨go37, (t474 : Int).toNat * 5 + 2, none⟩ = some (.int .i64 ((rd_T26 y483 t474).f2)) := hcc40 2 _ rfl; have hx40_3 : w53.cell? ⟨go37, (t474 : Int).toNat * 5 + 3, none⟩ = some (.int .i64 ((rd_T26 y483 t474).f3)) := hcc40 3 _ rfl; have hx40_4 : w53.cell? ⟨go37, (t474 : Int).toNat * 5 + 4, none⟩ = some (.int .i64 ((rd_T26 y483 t474).f4)) := hcc40 4 _ rfl; have hf40_0 : w53.frozen? ⟨go37, (t474 : Int).toNat * 5, none⟩ = false := hfr40 0; have hf40_1 : w53.frozen? ⟨go37, (t474 : Int).toNat * 5 + 1, none⟩ = false := hfr40 1; have hf40_2 : w53.frozen? ⟨go37, (t474 : Int).toNat * 5 + 2, none⟩ = false := hfr40 2; have hf40_3 : w53.frozen? ⟨go37, (t474 : Int).toNat * 5 + 3, none⟩ = false := hfr40 3; have hf40_4 : w53.frozen? ⟨go37, (t474 : Int).toNat * 5 + 4, none⟩ = false := hfr40 4; clear hcl40 hcc40 hfr40 hM40; replace p40 := eq_true p40; replace q40 := eq_true q40; have HX54 := Aside0.mk (show Kd.R k26 26 w53 w.heap.size (fun _ => True) (.slice (some ⟨go37, 0, none⟩) t479.length co51) y483 from (by (with_reducible repeat (first | apply Kd.R_alloc | apply Kd.R_drewN | apply Kd.R_drew)); exact HO481.out)); obtain ⟨ce54, hcl54, hM54, hcc54, hfr54⟩ := Kd.R_elem HX54.out z26 (t474 : Int) (of_decide_eq_true (by first|with_reducible assumption|assumption)) (by have h_ : (t474 : Int) < ((t479.length : Int) : Int) := of_decide_eq_true (by first|with_reducible assumption|assumption); first | exact h_ | (have e_ := (Kd.R_reads' HO481.out).1; omega) | simpa using h_); obtain rfl := k26_openM hM54; have HP54 := Kd.R_seg HX54.out (t474 : Int) (of_decide_eq_true (by first|with_reducible assumption|assumption)) (by have h_ : (t474 : Int) < ((t479.length : Int) : Int) := of_decide_eq_true (by first|with_reducible assumption|assumption); first | exact h_ | (have e_ := (Kd.R_reads' HO481.out).1; omega) | simpa using h_) (seg := [.int .i64 (wrap64 (((rd_T26 y483 t474).f3) + a3))]) (j := 3) hcl54 hcc54 (show 4 ≤ 5 from by decide) (x' := (⟨(rd_T26 y483 t474).f0, (rd_T26 y483 t474).f1, (rd_T26 y483 t474).f2, wrap64 (((rd_T26 y483 t474).f3) + a3), (rd_T26 y483 t474).f4⟩ : S26)) (k26_mkM _ _ _ (⟨(rd_T26 y483 t474).f0, (rd_T26 y483 t474).f1, (rd_T26 y483 t474).f2, wrap64 (((rd_T26 y483 t474).f3) + a3), (rd_T26 y483 t474).f4⟩ : S26) ) (fun _ hk => hk); have hx54_3 := hcc54 3 _ rfl; (try simp only [show (k26).sz = 5 from rfl, Nat.mul_one, Nat.add_zero] at hx54_3); have hf54_3 := hfr54 3; (try simp only [show (k26).sz = 5 from rfl, Nat.mul_one, Nat.add_zero] at hf54_3); clear hcl54 hcc54 hfr54 hM54) | ((with_reducible refine gate_store (t := 3) (p := 72) rfl ?_); refine store_event (t := 3) (p := 72) (v := ?vo_w55) (w1 := (w53.setCell ⟨go37, (t474 : Int).toNat * 5 + 3, none⟩ (.int .i64 (wrap64 (((rd_T26 y483 t474).f3) + a3))))) ?hg ?ho ?hn ?hr ?_; (case ho => rfl); (case hg => rfl); (case hn => rfl); (case hr => first | (go_simp; done) | (go_simp; rfl)); intro w55 hw; have hg : w53.grownBy w55 (some go37) := (by rw [hw]; exact HP54.2); have hp_ : Kd.R k26 26 w55 w.heap.size (fun _ => True) (.slice (some ⟨go37, 0, none⟩) t479.length co51) y485 := (by rw [hw, Ny485.out]; exact HP54.1); clear HP54; have n0_ := Aside0.mk (hp_); have n1_ := Aside0.mk ((by rw [hw]; exact below_set (HB.out) GB37.out : Below w.heap.size w w55)); clear HO481; clear HB; have HO481 := n0_; have HB := n1_; clear n0_ n1_; clear hg hw hp_) | ((with_reducible refine gate_callee (f := 63) rfl ?_); refine goesL_ (some 74) rfl rfl Try.func63 (by kernel_rfl) rfl #[.slice (some ⟨go37, 0, none⟩) y485.length co51] rfl (by (try simp only [List.map_toArray, List.map_cons, List.map_nil]); first | done | (rw [show y485.length = t479.length from (Kd.R_reads' HO481.out).1.symm] <;> rfl) | rfl | (simp only [List.length_drop, List.length_take]; rfl)) ?_; (with_reducible refine (impl_isFleet.calls kj6 _ _ y485 false _ ?side1 ?side2 A41.out).mono ?_); (case side1 => repeat (first | exact (Kd.R_reads' HO481.out).2.2 | (with_reducible refine Kd.C_alloc ?_ _) | (with_reducible refine Kd.C_drewN ?_ _) | (with_reducible refine Kd.C_drew ?_))); (case side2 => rw [show y485.length = t479.length from (Kd.R_reads' HO481.out).1.symm]; exact (Kd.R_reads' HO481.out).2.1); rintro e w56 ⟨rfl, hb⟩; refine ⟨_, rfl, ?_⟩; have n0_ := Aside0.mk (Kd.R_below (by (with_reducible repeat (first | apply Kd.R_alloc | apply Kd.R_drewN | apply Kd.R_drew)); exact HO481.out) hb); have n1_ := Aside0.mk (below_step (by repeat (first | (with_reducible first | exact HB.out | apply bA_ | apply bN_ | apply b1_) | exact HB.out)) hb); clear HO481; clear HB; have HO481 := n0_; have HB := n1_; clear n0_ n1_; (try clear hb); (try clear hb2); (try clear hk); (try clear hi)))
     go_ret2
     exact ⟨_, by first | rfl | (simp [errW_none, errW_some] <;> rfl) | (simp [*, errW_none, errW_some] <;> rfl), by first | exact Kd.R_nil _ _ _ _ _ | exact Kd.N_nil _ _ _ _ _ | exact Kd.V_nil _ _ _ _ _ | exact Kd.Q_nil _ _ _ _ _ | exact Kd.S_nil _ _ _ _ _, by repeat (first | (with_reducible first | exact HB.out | apply bA_ | apply bN_ | apply b1_) | exact HB.out)⟩
    subst c42
    have H1 : (some (y485, true)) = some (r1, r2) := by rw [if_pos rfl] at H; exact H
    clear H
    have H := H1
    clear H1
    simp only [Option.some.injEq, Prod.mk.injEq] at H
    obtain ⟨rfl, rfl⟩ := H
    go_wp2_with (first | ((with_reducible refine gate_callee (f := 72) rfl ?_); refine goesL_ (some 54) rfl rfl Try.func72 (by kernel_rfl) rfl #[.slice A0 l0.length c0] rfl (by (try simp only [List.map_toArray, List.map_cons, List.map_nil]); first | done | rfl) ?_; (with_reducible refine (impl_Appliance_72.calls _ _ l0 t479 _ ?side1 ?side2 A34.out).mono ?_); (case side1 => repeat (first | exact (Kd.C_below HR0.out HB.out) | (with_reducible refine Kd.C_alloc ?_ _) | (with_reducible refine Kd.C_drewN ?_ _) | (with_reducible refine Kd.C_drew ?_))); (case side2 => exact HC0.out); rintro e w43 ⟨v480, rfl, ho0, hb⟩; refine ⟨_, rfl, ?_⟩; have n0_ := Aside0.mk (Kd.R_lower ho0 (below_size (by repeat (first | (with_reducible first | exact HB.out | apply bA_ | apply bN_ | apply b1_) | exact HB.out)))); have n1_ := Aside0.mk (below_step (by repeat (first | (with_reducible first | exact HB.out | apply bA_ | apply bN_ | apply b1_) | exact HB.out)) hb); clear HB; have HO481 := n0_; have HB := n1_; clear n0_ n1_; (try clear hb); (try clear hb2); (try clear hk); (try clear hi); (try clear ho0); obtain ⟨Ao44, co44, eo44⟩ := Kd.R_slice HO481.out; subst eo44; have p482 : 0 ≤ (t473 : Int) := of_decide_eq_true (by first|with_reducible assumption|assumption); have q482 : t473 < (t479.length : Int) := of_decide_eq_true (by first|with_reducible assumption|assumption); obtain ⟨ad482, e482, hx482_0, hx482_1, hx482_2, hx482_3, hx482_4⟩ := at_T26 (Kd.R_reads' HO481.out).2.2 t473 p482 q482; cases e482; replace p482 := eq_true p482; replace q482 := eq_true q482; have p37 : 0 ≤ (t473 : Int) := of_decide_eq_true (by first|with_reducible assumption|assumption); have q37 : (t473 : Int) < ((t479.length : Int) : Int) := of_decide_eq_true (by first|with_reducible assumption|assumption); obtain ⟨go37, co37, eo37, gb37, gl37, cl37, HG37⟩ := Kd.R_form HO481.out (by omega); (first | cases eo37 | (injection eo37 with ea_ en_ ec_; (first | subst ea_ | (injection ea_ with ea_; subst ea_)); subst ec_; clear en_)); have GB37 := Aside0.mk gb37; have GG37 := Aside0.mk HG37; clear gb37 gl37 HG37; (first | simp only [add_plain] at hx482_0 | skip); (first | simp only [add_plain] at hx482_1 | skip); (first | simp only [add_plain] at hx482_2 | skip); (first | simp only [add_plain] at hx482_3 | skip); (first | simp only [add_plain] at hx482_4 | skip); obtain ⟨ce37, hcl37, hM37, hcc37, hfr37⟩ := Kd.R_elem HO481.out z26 (t473 : Int) p37 q37; obtain rfl := k26_openM hM37; have hx37_0 : w43.cell? ⟨go37, (t473 : Int).toNat * 5, none⟩ = some (.string ((rd_T26 t479 t473).f0)) := hcc37 0 _ rfl; have hx37_1 : w43.cell? ⟨go37, (t473 : Int).toNat * 5 + 1, none⟩ = some (.int .i64 ((rd_T26 t479 t473).f1)) := hcc37 1 _ rfl; have hx37_2 : w43.cell? ⟨go37, (t473 : Int).toNat * 5 + 2, none⟩ = some (.int .i64 ((rd_T26 t479 t473).f2)) := hcc37 2 _ rfl; have hx37_3 : w43.cell? ⟨go37, (t473 : Int).toNat * 5 + 3, none⟩ = some (.int .i64 ((rd_T26 t479 t473).f3)) := hcc37 3 _ rfl; have hx37_4 : w43.cell? ⟨go37, (t473 : Int).toNat * 5 + 4, none⟩ = some (.int .i64 ((rd_T26 t479 t473).f4)) := hcc37 4 _ rfl; have hf37_0 : w43.frozen? ⟨go37, (t473 : Int).toNat * 5, none⟩ = false := hfr37 0; have hf37_1 : w43.frozen? ⟨go37, (t473 : Int).toNat * 5 + 1, none⟩ = false := hfr37 1; have hf37_2 : w43.frozen? ⟨go37, (t473 : Int).toNat * 5 + 2, none⟩ = false := hfr37 2; have hf37_3 : w43.frozen? ⟨go37, (t473 : Int).toNat * 5 + 3, none⟩ = false := hfr37 3; have hf37_4 : w43.frozen? ⟨go37, (t473 : Int).toNat * 5 + 4, none⟩ = false := hfr37 4; clear hcl37 hcc37 hfr37 hM37; replace p37 := eq_true p37; replace q37 := eq_true q37; have HX45 := Aside0.mk (show Kd.R k26 26 w43 w.heap.size (fun _ => True) (.slice (some ⟨go37, 0, none⟩) t479.length co44) t479 from (by (with_reducible repeat (first | apply Kd.R_alloc | apply Kd.R_drewN | apply Kd.R_drew)); exact HO481.out)); obtain ⟨ce45, hcl45, hM45, hcc45, hfr45⟩ := Kd.R_elem HX45.out z26 (t473 : Int) (of_decide_eq_true (by first|with_reducible assumption|assumption)) (by have h_ : (t473 : Int) < ((t479.length : Int) : Int) := of_decide_eq_true (by first|with_reducible assumption|assumption); first | exact h_ | (have e_ := (Kd.R_reads' HO481.out).1; omega) | simpa using h_); obtain rfl := k26_openM hM45; have HP45 := Kd.R_seg HX45.out (t473 : Int) (of_decide_eq_true (by first|with_reducible assumption|assumption)) (by have h_ : (t473 : Int) < ((t479.length : Int) : Int) := of_decide_eq_true (by first|with_reducible assumption|assumption); first | exact h_ | (have e_ := (Kd.R_reads' HO481.out).1; omega) | simpa using h_) (seg := [.int .i64 (wrap64 (((rd_T26 t479 t473).f3) - a3))]) (j := 3) hcl45 hcc45 (show 4 ≤ 5 from by decide) (x' := (⟨(rd_T26 t479 t473).f0, (rd_T26 t479 t473).f1, (rd_T26 t479 t473).f2, wrap64 (((rd_T26 t479 t473).f3) - a3), (rd_T26 t479 t473).f4⟩ : S26)) (k26_mkM _ _ _ (⟨(rd_T26 t479 t473).f0, (rd_T26 t479 t473).f1, (rd_T26 t479 t473).f2, wrap64 (((rd_T26 t479 t473).f3) - a3), (rd_T26 t479 t473).f4⟩ : S26) ) (fun _ hk => hk); have hx45_3 := hcc45 3 _ rfl; (try simp only [show (k26).sz = 5 from rfl, Nat.mul_one, Nat.add_zero] at hx45_3); have hf45_3 := hfr45 3; (try simp only [show (k26).sz = 5 from rfl, Nat.mul_one, Nat.add_zero] at hf45_3); clear hcl45 hcc45 hfr45 hM45) | ((with_reducible refine gate_store (t := 3) (p := 63) rfl ?_); refine store_event (t := 3) (p := 63) (v := ?vo_w46) (w1 := (w43.setCell ⟨go37, (t473 : Int).toNat * 5 + 3, none⟩ (.int .i64 (wrap64 (((rd_T26 t479 t473).f3) - a3))))) ?hg ?ho ?hn ?hr ?_; (case ho => rfl); (case hg => rfl); (case hn => rfl); (case hr => first | (go_simp; done) | (go_simp; rfl)); intro w46 hw; have hg : w43.grownBy w46 (some go37) := (by rw [hw]; exact HP45.2); have hp_ : Kd.R k26 26 w46 w.heap.size (fun _ => True) (.slice (some ⟨go37, 0, none⟩) t479.length co44) y483 := (by rw [hw, Ny483.out]; exact HP45.1); clear HP45; have n0_ := Aside0.mk (hp_); have n1_ := Aside0.mk ((by rw [hw]; exact below_set (HB.out) GB37.out : Below w.heap.size w w46)); clear HO481; clear HB; have HO481 := n0_; have HB := n1_; clear n0_ n1_; clear hg hw hp_; have p484 : 0 ≤ (t474 : Int) := of_decide_eq_true (by first|with_reducible assumption|assumption); have q484 : t474 < (y483.length : Int) := (by have h_ : (t474 : Int) < ((t479.length : Int) : Int) := of_decide_eq_true (by first|with_reducible assumption|assumption); first | (have e_ := (Kd.R_reads' HO481.out).1; omega) | simpa only [Ny483.out, List.length_set] using h_); have ql484 : ((t474 : Int) < ((t479.length : Int) : Int)) = True := eq_true (of_decide_eq_true (by first|with_reducible assumption|assumption)); obtain ⟨ad484, e484, hx484_0, hx484_1, hx484_2, hx484_3, hx484_4⟩ := at_T26 (Kd.R_reads' HO481.out).2.2 t474 p484 q484; obtain rfl : (⟨go37, 0, none⟩ : Addr) = ad484 := (by injection e484); (first | simp only [add_plain] at hx484_0 | simp only [add_at] at hx484_0 | simp only [Addr.add, Nat.zero_add] at hx484_0 | skip); (first | simp only [add_plain] at hx484_1 | simp only [add_at] at hx484_1 | simp only [Addr.add, Nat.zero_add] at hx484_1 | skip); (first | simp only [add_plain] at hx484_2 | simp only [add_at] at hx484_2 | simp only [Addr.add, Nat.zero_add] at hx484_2 | skip); (first | simp only [add_plain] at hx484_3 | simp only [add_at] at hx484_3 | simp only [Addr.add, Nat.zero_add] at hx484_3 | skip); (first | simp only [add_plain] at hx484_4 | simp only [add_at] at hx484_4 | simp only [Addr.add, Nat.zero_add] at hx484_4 | skip); replace p484 := eq_true p484; replace q484 := eq_true q484; have p40 : 0 ≤ (t474 : Int) := of_decide_eq_true (by first|with_reducible assumption|assumption); have q40 : (t474 : Int) < ((t479.length : Int) : Int) := of_decide_eq_true (by first|with_reducible assumption|assumption); obtain ⟨ce40, hcl40, hM40, hcc40, hfr40⟩ := Kd.R_elem HO481.out z26 (t474 : Int) p40 q40; obtain rfl := k26_openM hM40; have hx40_0 : w46.cell? ⟨go37, (t474 : Int).toNat * 5, none⟩ = some (.string ((rd_T26 y483 t474).f0)) := hcc40 0 _ rfl; have hx40_1 : w46.cell? ⟨go37, (t474 : Int).toNat * 5 + 1, none⟩ = some (.int .i64 ((rd_T26 y483 t474).f1)) := hcc40 1 _ rfl; have hx40_2 : w46.cell? ⟨go37, (t474 : Int).toNat * 5 + 2, none⟩ = some (.int .i64 ((rd_T26 y483 t474).f2)) := hcc40 2 _ rfl; have hx40_3 : w46.cell? ⟨go37, (t474 : Int).toNat * 5 + 3, none⟩ = some (.int .i64 ((rd_T26 y483 t474).f3)) := hcc40 3 _ rfl; have hx40_4 : w46.cell? ⟨go37, (t474 : Int).toNat * 5 + 4, none⟩ = some (.int .i64 ((rd_T26 y483 t474).f4)) := hcc40 4 _ rfl; have hf40_0 : w46.frozen? ⟨go37, (t474 : Int).toNat * 5, none⟩ = false := hfr40 0; have hf40_1 : w46.frozen? ⟨go37, (t474 : Int).toNat * 5 + 1, none⟩ = false := hfr40 1; have hf40_2 : w46.frozen? ⟨go37, (t474 : Int).toNat * 5 + 2, none⟩ = false := hfr40 2; have hf40_3 : w46.frozen? ⟨go37, (t474 : Int).toNat * 5 + 3, none⟩ = false := hfr40 3; have hf40_4 : w46.frozen? ⟨go37, (t474 : Int).toNat * 5 + 4, none⟩ = false := hfr40 4; clear hcl40 hcc40 hfr40 hM40; replace p40 := eq_true p40; replace q40 := eq_true q40; have HX47 := Aside0.mk (show Kd.R k26 26 w46 w.heap.size (fun _ => True) (.slice (some ⟨go37, 0, none⟩) t479.length co44) y483 from (by (with_reducible repeat (first | apply Kd.R_alloc | apply Kd.R_drewN | apply Kd.R_drew)); exact HO481.out)); obtain ⟨ce47, hcl47, hM47, hcc47, hfr47⟩ := Kd.R_elem HX47.out z26 (t474 : Int) (of_decide_eq_true (by first|with_reducible assumption|assumption)) (by have h_ : (t474 : Int) < ((t479.length : Int) : Int) := of_decide_eq_true (by first|with_reducible assumption|assumption); first | exact h_ | (have e_ := (Kd.R_reads' HO481.out).1; omega) | simpa using h_); obtain rfl := k26_openM hM47; have HP47 := Kd.R_seg HX47.out (t474 : Int) (of_decide_eq_true (by first|with_reducible assumption|assumption)) (by have h_ : (t474 : Int) < ((t479.length : Int) : Int) := of_decide_eq_true (by first|with_reducible assumption|assumption); first | exact h_ | (have e_ := (Kd.R_reads' HO481.out).1; omega) | simpa using h_) (seg := [.int .i64 (wrap64 (((rd_T26 y483 t474).f3) + a3))]) (j := 3) hcl47 hcc47 (show 4 ≤ 5 from by decide) (x' := (⟨(rd_T26 y483 t474).f0, (rd_T26 y483 t474).f1, (rd_T26 y483 t474).f2, wrap64 (((rd_T26 y483 t474).f3) + a3), (rd_T26 y483 t474).f4⟩ : S26)) (k26_mkM _ _ _ (⟨(rd_T26 y483 t474).f0, (rd_T26 y483 t474).f1, (rd_T26 y483 t474).f2, wrap64 (((rd_T26 y483 t474).f3) + a3), (rd_T26 y483 t474).f4⟩ : S26) ) (fun _ hk => hk); have hx47_3 := hcc47 3 _ rfl; (try simp only [show (k26).sz = 5 from rfl, Nat.mul_one, Nat.add_zero] at hx47_3); have hf47_3 := hfr47 3; (try simp only [show (k26).sz = 5 from rfl, Nat.mul_one, Nat.add_zero] at hf47_3); clear hcl47 hcc47 hfr47 hM47) | ((with_reducible refine gate_store (t := 3) (p := 72) rfl ?_); refine store_event (t := 3) (p := 72) (v := ?vo_w48) (w1 := (w46.setCell ⟨go37, (t474 : Int).toNat * 5 + 3, none⟩ (.int .i64 (wrap64 (((rd_T26 y483 t474).f3) + a3))))) ?hg ?ho ?hn ?hr ?_; (case ho => rfl); (case hg => rfl); (case hn => rfl); (case hr => first | (go_simp; done) | (go_simp; rfl)); intro w48 hw; have hg : w46.grownBy w48 (some go37) := (by rw [hw]; exact HP47.2); have hp_ : Kd.R k26 26 w48 w.heap.size (fun _ => True) (.slice (some ⟨go37, 0, none⟩) t479.length co44) y485 := (by rw [hw, Ny485.out]; exact HP47.1); clear HP47; have n0_ := Aside0.mk (hp_); have n1_ := Aside0.mk ((by rw [hw]; exact below_set (HB.out) GB37.out : Below w.heap.size w w48)); clear HO481; clear HB; have HO481 := n0_; have HB := n1_; clear n0_ n1_; clear hg hw hp_) | ((with_reducible refine gate_callee (f := 63) rfl ?_); refine goesL_ (some 74) rfl rfl Try.func63 (by kernel_rfl) rfl #[.slice (some ⟨go37, 0, none⟩) y485.length co44] rfl (by (try simp only [List.map_toArray, List.map_cons, List.map_nil]); first | done | (rw [show y485.length = t479.length from (Kd.R_reads' HO481.out).1.symm] <;> rfl) | rfl | (simp only [List.length_drop, List.length_take]; rfl)) ?_; (with_reducible refine (impl_isFleet.calls kj6 _ _ y485 true _ ?side1 ?side2 A41.out).mono ?_); (case side1 => repeat (first | exact (Kd.R_reads' HO481.out).2.2 | (with_reducible refine Kd.C_alloc ?_ _) | (with_reducible refine Kd.C_drewN ?_ _) | (with_reducible refine Kd.C_drew ?_))); (case side2 => rw [show y485.length = t479.length from (Kd.R_reads' HO481.out).1.symm]; exact (Kd.R_reads' HO481.out).2.1); rintro e w49 ⟨rfl, hb⟩; refine ⟨_, rfl, ?_⟩; have n0_ := Aside0.mk (Kd.R_below (by (with_reducible repeat (first | apply Kd.R_alloc | apply Kd.R_drewN | apply Kd.R_drew)); exact HO481.out) hb); have n1_ := Aside0.mk (below_step (by repeat (first | (with_reducible first | exact HB.out | apply bA_ | apply bN_ | apply b1_) | exact HB.out)) hb); clear HO481; clear HB; have HO481 := n0_; have HB := n1_; clear n0_ n1_; (try clear hb); (try clear hb2); (try clear hk); (try clear hi)))
    go_ret2
    exact ⟨_, by first | rfl | (simp [errW_none, errW_some] <;> rfl) | (simp [*, errW_none, errW_some] <;> rfl), by (with_reducible repeat (first | apply Kd.R_alloc | apply Kd.R_drewN | apply Kd.R_drew)); exact HO481.out, by repeat (first | (with_reducible first | exact HB.out | apply bA_ | apply bN_ | apply b1_) | exact HB.out)⟩
   subst c33
   have H1 : (some (([] : List (S26)), false)) = some (r1, r2) := by rw [if_pos rfl] at H; exact H
   clear H
   have H := H1
   clear H1
   simp only [Option.some.injEq, Prod.mk.injEq] at H
   obtain ⟨rfl, rfl⟩ := H
   go_wp2
   go_ret2
   exact ⟨_, by first | rfl | (simp [errW_none, errW_some] <;> rfl) | (simp [*, errW_none, errW_some] <;> rfl), by first | exact Kd.R_nil _ _ _ _ _ | exact Kd.N_nil _ _ _ _ _ | exact Kd.V_nil _ _ _ _ _ | exact Kd.Q_nil _ _ _ _ _ | exact Kd.S_nil _ _ _ _ _, by repeat (first | (with_reducible first | exact HB.out | apply bA_ | apply bN_ | apply b1_) | exact HB.out)⟩

end Go.Proofs.Yteinfbfaijjknaa.P
