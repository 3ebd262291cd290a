/- Written by a program of this session (wip/p2) out of the translation: plain Lean functions, and that the calls of the Go functions come to what these say. Conditions: as each contract states. -/
import Derived.Test.YteinfbfaijjknaaQFnExactShareCrew4
namespace Go.Proofs.Yteinfbfaijjknaa.P
open Go.RowKit Go.Proofs.YteinfbfaijjknaaW.PrintWords Go.Proofs.YteinfbfaijjknaaW.PrintLast Go.Proofs.YteinfbfaijjknaaW.PrintMore
attribute [local go_sem] max2_int min2_int max_two min_two max_three min_three max_four min_four   -- for this text's walks alone
set_option linter.unusedVariables false
set_option linter.unusedSimpArgs false

/-! ### spec_ShareCrew: function 41 -/
def spec_ShareCrew.j0 : Nat → List (S26) → Int → Int → Int → Bool → Option ((List (S26)) × Bool)
  | 0, _, _, _, _, _ => none
  | k + 1, x0, x3, x10, x11, x54 => if x54 = true then (some (([] : List (S26)), false)) else (if 0 ≤ x10 then (if x10 < (x0.length : Int) then (if 0 ≤ x11 then (if x11 < (x0.length : Int) then ((spec_apWith.f x0 x10 ((rd_T26 x0 x10).f0) ((rd_T26 x0 x10).f1) ((rd_T26 x0 x10).f2) (wrap64 (((rd_T26 x0 x10).f3) - x3)) ((rd_T26 x0 x10).f4)).bind fun t466 => ((spec_apWith.f t466 x11 ((rd_T26 x0 x11).f0) ((rd_T26 x0 x11).f1) ((rd_T26 x0 x11).f2) (wrap64 (((rd_T26 x0 x11).f3) + x3)) ((rd_T26 x0 x11).f4)).bind fun t469 => ((spec_apFleet.f k t469).bind fun t472 => (if t472 = true then (some (t469, true)) else (some (([] : List (S26)), false)))))) else (none)) else (none)) else (none)) else (none))
def spec_ShareCrew.f (k : Nat) (l0 : List (S26)) (a1 : ByteArray) (a2 : ByteArray) (a3 : Int) : Option ((List (S26)) × Bool) := (spec_apFind.f k l0 a1).bind fun t456 => ((spec_apFind.f k l0 a2).bind fun t457 => ((spec_apFleet.f k l0).bind fun t458 => (if t458 = true then (if t456 < 0 then (spec_ShareCrew.j0 k l0 a3 t456 t457 true) else (if t457 < 0 then (spec_ShareCrew.j0 k l0 a3 t456 t457 true) else (if t456 = t457 then (spec_ShareCrew.j0 k l0 a3 t456 t457 true) else ((spec_l1In.f a3 1 8).bind fun t459 => (if t459 = true then (if 0 ≤ t456 then (if t456 < (l0.length : Int) then (if 0 ≤ t457 then (if t457 < (l0.length : Int) then (spec_ShareCrew.j0 k l0 a3 t456 t457 (((rd_T26 l0 t456).f2) != ((rd_T26 l0 t457).f2))) else (none)) else (none)) else (none)) else (none)) else (spec_ShareCrew.j0 k l0 a3 t456 t457 true)))))) else (spec_ShareCrew.j0 k l0 a3 t456 t457 true))))
theorem spec_ShareCrew.mono_l : ∀ k, (∀ y0 y1 y2 y3 y4, LeO (spec_ShareCrew.j0 k y0 y1 y2 y3 y4) (spec_ShareCrew.j0 (k + 1) y0 y1 y2 y3 y4))
 | 0 => fun _ _ _ _ _ r h => by simp [spec_ShareCrew.j0] at h
 | k + 1 => by
  have ih0 := spec_ShareCrew.mono_l k
  · intro y0 y1 y2 y3 y4
    unfold spec_ShareCrew.j0
    repeat' first
    | (with_reducible exact ih0 _ _ _ _ _)
    | (with_reducible exact spec_apFind.mono _ _ _)
    | (with_reducible exact spec_apFleet.mono _ _)
    | (with_reducible exact LeO.refl _)
    | (with_reducible exact LeO.none _)
    | (with_reducible refine LeO.ite ?_ ?_)
    | (with_reducible refine LeO.bind ?_ (fun _ => ?_))
    | exact ih0 _ _ _ _ _
    | exact spec_apFind.mono _ _ _
    | exact spec_apFleet.mono _ _
    | exact LeO.none _
    | refine LeO.ite ?_ ?_
    | refine LeO.bind ?_ (fun _ => ?_)
theorem spec_ShareCrew.mono : ∀ a0 a1 a2 a3 k, LeO (spec_ShareCrew.f k a0 a1 a2 a3) (spec_ShareCrew.f (k + 1) a0 a1 a2 a3) := by
 intro a0 a1 a2 a3 k
 have ih0 := spec_ShareCrew.mono_l k
 unfold spec_ShareCrew.f
 repeat' first
  | (with_reducible exact ih0 _ _ _ _ _)
  | (with_reducible exact spec_apFind.mono _ _ _)
  | (with_reducible exact spec_apFleet.mono _ _)
  | (with_reducible exact LeO.refl _)
  | (with_reducible exact LeO.none _)
  | (with_reducible refine LeO.ite ?_ ?_)
  | (with_reducible refine LeO.bind ?_ (fun _ => ?_))
  | exact ih0 _ _ _ _ _
  | exact spec_apFind.mono _ _ _
  | exact spec_apFleet.mono _ _
  | exact LeO.none _
  | refine LeO.ite ?_ ?_
  | refine LeO.bind ?_ (fun _ => ?_)
def spec_ShareCrew.T2 : Bool × List (List Nat × List Nat) := (true, [([], []), ([0], [0]), ([1], [1]), ([2, 1], [2]), ([3], [3]), ([4, 3], [3, 4]), ([3, 5], [3, 5]), ([6, 3], [6]), ([7], [7]), ([8, 7], [7, 8]), ([7, 9], [7, 9]), ([10, 7], [10]), ([11], [11]), ([11], [11]), ([12, 13, 11], [11, 12, 13]), ([11, 14], [11, 14]), ([15, 11], [15]), ([16], [16]), ([17, 16, 16], [16, 17]), ([18, 16], [16, 18]), ([16, 19], [16, 19]), ([20, 18], [20]), ([21], [21]), ([21], [21]), ([22, 23, 21], [21, 22, 23]), ([24, 21], [21, 24]), ([25, 21], [21, 25]), ([21], [21]), ([21], [21]), ([27, 28, 21], [21, 27, 28]), ([29, 21], [21, 29]), ([30, 21], [21, 30]), ([26, 31, 21], [21, 26, 31]), ([21, 32], [21, 32])])
def spec_ShareCrew.B2 : List Nat := [0, 1, 3, 7, 15, 31, 63, 127, 255, 511, 1023, 2047, 4095, 4095, 16383, 32767, 65535, 131071, 262143, 524287, 1048575, 2097151, 4194303, 4194303, 16777215, 33554431, 67108863, 4194303, 4194303, 406847487, 943718399, 2017460223, 4294967295, 8589934591]
theorem spec_ShareCrew.tab2 : rtab .any (opsOf Try.f41 2) = spec_ShareCrew.T2 := by kernel_rfl
theorem spec_ShareCrew.bits2 : waitsOk spec_ShareCrew.T2.2 spec_ShareCrew.B2 = true := by kernel_rfl
def spec_ShareCrew.T4 : Bool × List (List Nat × List Nat) := (true, [([], []), ([], []), ([0, 1], [0, 1]), ([2], [2]), ([], []), ([], []), ([4, 5], [4, 5]), ([6], [6]), ([], []), ([], []), ([8, 3, 0, 1, 2, 3, 8, 9], [3, 8]), ([9, 7, 10, 0, 1, 2, 3, 4, 5, 6, 7, 8, 9, 10], [7, 9])])
def spec_ShareCrew.B4 : List Nat := [0, 0, 3, 7, 0, 0, 48, 112, 0, 0, 783, 2047]
theorem spec_ShareCrew.tab4 : rtab .any (opsOf Try.f41 4) = spec_ShareCrew.T4 := by kernel_rfl
theorem spec_ShareCrew.bits4 : waitsOk spec_ShareCrew.T4.2 spec_ShareCrew.B4 = true := by kernel_rfl
def spec_ShareCrew.T7 : Bool × List (List Nat × List Nat) := (true, [([], []), ([], []), ([], []), ([0, 1, 2], [0, 1, 2]), ([], []), ([], []), ([3, 4, 5, 3], [3, 4, 5]), ([6, 6, 0, 1, 2, 3, 4, 5, 6], [6])])
def spec_ShareCrew.B7 : List Nat := [0, 0, 0, 7, 0, 0, 63, 127]
theorem spec_ShareCrew.tab7 : rtab .any (opsOf Try.f41 7) = spec_ShareCrew.T7 := by kernel_rfl
theorem spec_ShareCrew.bits7 : waitsOk spec_ShareCrew.T7.2 spec_ShareCrew.B7 = true := by kernel_rfl
set_option maxHeartbeats 8000000 in
set_option maxRecDepth 100000 in
theorem spec_ShareCrew.calls (k : Nat) (A0 : Option Addr) (c0 : Nat) (l0 : List (S26)) (a1 : ByteArray) (a2 : ByteArray) (a3 : Int) (r1 : List (S26)) (r2 : Bool) (w : World) (hr0 : Kd.C k26 w A0 l0.length l0) (hc0 : l0.length ≤ c0) (h : spec_ShareCrew.f k l0 a1 a2 a3 = some (r1, r2)) :
  Calls Try.prog 41 #[.slice A0 l0.length c0, .string a1, .string a2, .int .i64 a3] w fun e w' => ∃ v0_ : Value, e = .returned (.tuple #[v0_, .bool r2]) ∧ Kd.R k26 26 w' w.heap.size (fun _ => True) v0_ r1 ∧ Below w.heap.size w w' := by
 have hu26 := Try.underlying26
 have HR0 := Aside0.mk hr0
 have HC0 := Aside0.mk hc0
 clear hr0 hc0
 have HB := Aside0.mk (Below.refl w.heap.size w)
 have H : ((spec_apFind.f k l0 a1).bind fun t456 => ((spec_apFind.f k l0 a2).bind fun t457 => ((spec_apFleet.f k l0).bind fun t458 => (if t458 = true then (if t456 < 0 then (spec_ShareCrew.j0 k l0 a3 t456 t457 true) else (if t457 < 0 then (spec_ShareCrew.j0 k l0 a3 t456 t457 true) else (if t456 = t457 then (spec_ShareCrew.j0 k l0 a3 t456 t457 true) else ((spec_l1In.f a3 1 8).bind fun t459 => (if t459 = true then (if 0 ≤ t456 then (if t456 < (l0.length : Int) then (if 0 ≤ t457 then (if t457 < (l0.length : Int) then (spec_ShareCrew.j0 k l0 a3 t456 t457 (((rd_T26 l0 t456).f2) != ((rd_T26 l0 t457).f2))) else (none)) else (none)) else (none)) else (none)) else (spec_ShareCrew.j0 k l0 a3 t456 t457 true)))))) else (spec_ShareCrew.j0 k l0 a3 t456 t457 true))))) = some (r1, r2) := h
 clear h
 replace H := Option.bind_eq_some_iff.mp H
 obtain ⟨t456, A50, H⟩ := H
 replace H : ((spec_apFind.f k l0 a2).bind fun t457 => ((spec_apFleet.f k l0).bind fun t458 => (if t458 = true then (if t456 < 0 then (spec_ShareCrew.j0 k l0 a3 t456 t457 true) else (if t457 < 0 then (spec_ShareCrew.j0 k l0 a3 t456 t457 true) else (if t456 = t457 then (spec_ShareCrew.j0 k l0 a3 t456 t457 true) else ((spec_l1In.f a3 1 8).bind fun t459 => (if t459 = true then (if 0 ≤ t456 then (if t456 < (l0.length : Int) then (if 0 ≤ t457 then (if t457 < (l0.length : Int) then (spec_ShareCrew.j0 k l0 a3 t456 t457 (((rd_T26 l0 t456).f2) != ((rd_T26 l0 t457).f2))) else (none)) else (none)) else (none)) else (none)) else (spec_ShareCrew.j0 k l0 a3 t456 t457 true)))))) else (spec_ShareCrew.j0 k l0 a3 t456 t457 true)))) = some (r1, r2) := H
 have A5 := Aside0.mk A50
 clear A50
 replace H := Option.bind_eq_some_iff.mp H
 obtain ⟨t457, A60, H⟩ := H
 replace H : ((spec_apFleet.f k l0).bind fun t458 => (if t458 = true then (if t456 < 0 then (spec_ShareCrew.j0 k l0 a3 t456 t457 true) else (if t457 < 0 then (spec_ShareCrew.j0 k l0 a3 t456 t457 true) else (if t456 = t457 then (spec_ShareCrew.j0 k l0 a3 t456 t457 true) else ((spec_l1In.f a3 1 8).bind fun t459 => (if t459 = true then (if 0 ≤ t456 then (if t456 < (l0.length : Int) then (if 0 ≤ t457 then (if t457 < (l0.length : Int) then (spec_ShareCrew.j0 k l0 a3 t456 t457 (((rd_T26 l0 t456).f2) != ((rd_T26 l0 t457).f2))) else (none)) else (none)) else (none)) else (none)) else (spec_ShareCrew.j0 k l0 a3 t456 t457 true)))))) else (spec_ShareCrew.j0 k l0 a3 t456 t457 true))) = some (r1, r2) := H
 have A6 := Aside0.mk A60
 clear A60
 have HC7 := Aside0.mk H
 clear H
 go_enter Try.func41, Try.ntmps41
 go_upto_region 2 with (first | ((with_reducible refine gate_callee (f := 65) rfl ?_); refine goesL_ (some 17) rfl rfl Try.func65 (by kernel_rfl) rfl #[.slice A0 l0.length c0, .string a1] rfl (by (try simp only [List.map_toArray, List.map_cons, List.map_nil]); first | done | rfl) ?_; (with_reducible refine (spec_apFind.calls k _ _ l0 a1 t456 _ ?side1 ?side2 A5.out).mono ?_); (case side1 => repeat (first | exact HR0.out | (with_reducible refine Kd.C_alloc ?_ _) | (with_reducible refine Kd.C_drewN ?_ _) | (with_reducible refine Kd.C_drew ?_))); (case side2 => exact HC0.out); rintro e w8 ⟨rfl, hb⟩; refine ⟨_, rfl, ?_⟩; have n0_ := Aside0.mk (below_step (by repeat (first | (with_reducible first | exact HB.out | apply bA_ | apply bN_ | apply b1_) | exact HB.out)) hb); clear HB; have HB := n0_; clear n0_; (try clear hb); (try clear hb2); (try clear hk); (try clear hi)) | ((with_reducible refine gate_callee (f := 65) rfl ?_); refine goesL_ (some 20) rfl rfl Try.func65 (by kernel_rfl) rfl #[.slice A0 l0.length c0, .string a2] rfl (by (try simp only [List.map_toArray, List.map_cons, List.map_nil]); first | done | rfl) ?_; (with_reducible refine (spec_apFind.calls k _ _ l0 a2 t457 _ ?side1 ?side2 A6.out).mono ?_); (case side1 => repeat (first | exact (Kd.C_below HR0.out HB.out) | (with_reducible refine Kd.C_alloc ?_ _) | (with_reducible refine Kd.C_drewN ?_ _) | (with_reducible refine Kd.C_drew ?_))); (case side2 => exact HC0.out); rintro e w9 ⟨rfl, hb⟩; refine ⟨_, rfl, ?_⟩; have n0_ := Aside0.mk (below_step (by repeat (first | (with_reducible first | exact HB.out | apply bA_ | apply bN_ | apply b1_) | exact HB.out)) hb); clear HB; have HB := n0_; clear n0_; (try clear hb); (try clear hb2); (try clear hk); (try clear hi)))
 (try simp only [Act.put, List.setIfInBounds_toArray, List.set_cons_zero, List.set_cons_succ])
 go_cut [54] (fun v54 wc => ∃ (kq : Nat) (x54_6 : Bool), v54 = .bool x54_6 ∧ Aside0 (spec_ShareCrew.j0 kq l0 a3 t456 t457 x54_6 = some (r1, r2)) ∧ Aside0 (kq ≤ k) ∧ Aside0 (Below w.heap.size w wc))
 case first =>
  have H := HC7.out
  clear HC7
  replace H := Option.bind_eq_some_iff.mp H
  obtain ⟨t458, A100, H⟩ := H
  replace H : (if t458 = true then (if t456 < 0 then (spec_ShareCrew.j0 k l0 a3 t456 t457 true) else (if t457 < 0 then (spec_ShareCrew.j0 k l0 a3 t456 t457 true) else (if t456 = t457 then (spec_ShareCrew.j0 k l0 a3 t456 t457 true) else ((spec_l1In.f a3 1 8).bind fun t459 => (if t459 = true then (if 0 ≤ t456 then (if t456 < (l0.length : Int) then (if 0 ≤ t457 then (if t457 < (l0.length : Int) then (spec_ShareCrew.j0 k l0 a3 t456 t457 (((rd_T26 l0 t456).f2) != ((rd_T26 l0 t457).f2))) else (none)) else (none)) else (none)) else (none)) else (spec_ShareCrew.j0 k l0 a3 t456 t457 true)))))) else (spec_ShareCrew.j0 k l0 a3 t456 t457 true)) = some (r1, r2) := H
  have A10 := Aside0.mk A100
  clear A100
  by_cases c11 : t458 = true
  case neg =>
   replace c11 := Bool.eq_false_iff.mpr c11
   subst c11
   have H1 : (spec_ShareCrew.j0 k l0 a3 t456 t457 true) = some (r1, r2) := by rw [if_neg (show ¬ (false = true) by decide)] at H; exact H
   clear H
   have H := H1
   clear H1
   have H' := Aside0.mk H
   clear H
   try go_wp2
   have n0_ := Aside0.mk (below_drew1 HB.out)
   clear HB
   have HB := n0_
   clear n0_
   refine start_ (n := 34) (S := fun w' => True) (ds := []) qa0_ (by kernel_rfl) rfl rfl trivial (fun hHeld => ?_); refine with_tabW spec_ShareCrew.tab2 spec_ShareCrew.bits2 (fun HT_ HW_ => ?_)
   generalize w9.drew = w31 at HB hHeld ⊢
   refine pure_ (i := 0) (N := some 21) (v := ?_) (a' := ?_) qa3_ rfl rfl (any_of HT_.out (by kernel_rfl)) (fun _ _ _ h => h) (Or.inl ⟨by rfl, ?_⟩) ?_ ?_
   rotate_left
   · intro w'
     go_simp
     with_reducible rfl
   rotate_left
   · simp only [Act.put, List.setIfInBounds_toArray, List.set_cons_zero, List.set_cons_succ, i64_w, i32_w]
     rfl
   refine one_ (i := 1) (N := some 22) qa6_ rfl rfl (one_of HT_.out (by kernel_rfl)) (by decide) (fun K hK => ?_)
   refine goes_ Try.func62 (by kernel_rfl) rfl #[.slice A0 l0.length c0] (by rfl) rfl rfl (by (try simp only [List.map_toArray, List.map_cons, List.map_nil]); first | done | rfl) ?_
   with_reducible refine (spec_apFleet.calls k _ _ l0 false _ ?side1 ?side2 A10.out).mono ?_
   (case side1 => repeat (first | exact (Kd.C_below HR0.out HB.out) | (with_reducible refine Kd.C_alloc ?_ _) | (with_reducible refine Kd.C_drewN ?_ _) | (with_reducible refine Kd.C_drew ?_)))
   (case side2 => exact HC0.out)
   rintro e w32 ⟨rfl, hb⟩
   refine ⟨_, rfl, ?_⟩
   have n0_ := Aside0.mk (below_step (by repeat (first | (with_reducible first | exact HB.out | apply bA_ | apply bN_ | apply b1_) | exact HB.out)) hb)
   clear HB
   have HB := n0_
   clear n0_
   (try clear hb)
   (try clear hb2)
   (try clear hk)
   (try clear hi)
   refine hK.out _ _ trivial (fun hHeld => ?_)
   clear hK K
   refine norm_ (a' := ?_) ?_ ?_
   rotate_left
   · show Act.put _ (some 22) _ = _
     simp only [Act.put, List.setIfInBounds_toArray, List.set_cons_zero, List.set_cons_succ, i64_w, i32_w]
     rfl
   refine pure_ (i := 2) (N := some 23) (v := ?_) (a' := ?_) qa9_ rfl rfl (any_of HT_.out (by kernel_rfl)) (fun _ _ _ h => h) (Or.inl ⟨by rfl, ?_⟩) ?_ ?_
   rotate_left
   · intro w'
     go_simp
     with_reducible rfl
   rotate_left
   · simp only [Act.put, List.setIfInBounds_toArray, List.set_cons_zero, List.set_cons_succ, i64_w, i32_w]
     rfl
   refine pure_ (i := 3) (N := some 24) (v := ?_) (a' := ?_) qa15_ rfl rfl (any_of HT_.out (by kernel_rfl)) (fun _ _ _ h => h) (Or.inl ⟨by rfl, ?_⟩) ?_ ?_
   rotate_left
   · intro w'
     go_simp
     with_reducible rfl
   rotate_left
   · simp only [Act.put, List.setIfInBounds_toArray, List.set_cons_zero, List.set_cons_succ, i64_w, i32_w]
     rfl
   refine pure_ (i := 4) (N := some 25) (v := undef) (a' := ?_) qa17_ rfl rfl (any_of HT_.out (by kernel_rfl)) (fun _ _ _ h => h) (Or.inr ⟨by rfl, rfl⟩) ?_ ?_
   rotate_left
   · simp only [Act.put, List.setIfInBounds_toArray, List.set_cons_zero, List.set_cons_succ, i64_w, i32_w]
     rfl
   refine pure_ (i := 5) (N := some 26) (v := undef) (a' := ?_) qa19_ rfl rfl (any_of HT_.out (by kernel_rfl)) (fun _ _ _ h => h) (Or.inr ⟨by rfl, rfl⟩) ?_ ?_
   rotate_left
   · simp only [Act.put, List.setIfInBounds_toArray, List.set_cons_zero, List.set_cons_succ, i64_w, i32_w]
     rfl
   refine pure_ (i := 6) (N := some 27) (v := ?_) (a' := ?_) qa21_ rfl rfl (any_of HT_.out (by kernel_rfl)) (fun _ _ _ h => h) (Or.inl ⟨by rfl, ?_⟩) ?_ ?_
   rotate_left
   · intro w'
     go_simp
     with_reducible rfl
   rotate_left
   · simp only [Act.put, List.setIfInBounds_toArray, List.set_cons_zero, List.set_cons_succ, i64_w, i32_w]
     rfl
   refine pure_ (i := 7) (N := some 28) (v := ?_) (a' := ?_) qa24_ rfl rfl (any_of HT_.out (by kernel_rfl)) (fun _ _ _ h => h) (Or.inl ⟨by rfl, ?_⟩) ?_ ?_
   rotate_left
   · intro w'
     go_simp
     with_reducible rfl
   rotate_left
   · simp only [Act.put, List.setIfInBounds_toArray, List.set_cons_zero, List.set_cons_succ, i64_w, i32_w]
     rfl
   refine pure_ (i := 8) (N := some 29) (v := undef) (a' := ?_) qa28_ rfl rfl (any_of HT_.out (by kernel_rfl)) (fun _ _ _ h => h) (Or.inr ⟨by rfl, rfl⟩) ?_ ?_
   rotate_left
   · simp only [Act.put, List.setIfInBounds_toArray, List.set_cons_zero, List.set_cons_succ, i64_w, i32_w]
     rfl
   refine pure_ (i := 9) (N := some 30) (v := undef) (a' := ?_) qa31_ rfl rfl (any_of HT_.out (by kernel_rfl)) (fun _ _ _ h => h) (Or.inr ⟨by rfl, rfl⟩) ?_ ?_
   rotate_left
   · simp only [Act.put, List.setIfInBounds_toArray, List.set_cons_zero, List.set_cons_succ, i64_w, i32_w]
     rfl
   refine pure_ (i := 10) (N := some 31) (v := ?_) (a' := ?_) qa34_ rfl rfl (any_of HT_.out (by kernel_rfl)) (fun _ _ _ h => h) (Or.inl ⟨by rfl, ?_⟩) ?_ ?_
   rotate_left
   · intro w'
     go_simp
     with_reducible rfl
   rotate_left
   · simp only [Act.put, List.setIfInBounds_toArray, List.set_cons_zero, List.set_cons_succ, i64_w, i32_w]
     rfl
   refine pure_ (i := 11) (N := some 32) (v := ?_) (a' := ?_) qa37_ rfl rfl (any_of HT_.out (by kernel_rfl)) (fun _ _ _ h => h) (Or.inl ⟨by rfl, ?_⟩) ?_ ?_
   rotate_left
   · intro w'
     go_simp
     with_reducible rfl
   rotate_left
   · simp only [Act.put, List.setIfInBounds_toArray, List.set_cons_zero, List.set_cons_succ, i64_w, i32_w]
     rfl
   refine pure_ (i := 12) (N := some 33) (v := undef) (a' := ?_) qa40_ rfl rfl (any_of HT_.out (by kernel_rfl)) (fun _ _ _ h => h) (Or.inr ⟨by rfl, rfl⟩) ?_ ?_
   rotate_left
   · simp only [Act.put, List.setIfInBounds_toArray, List.set_cons_zero, List.set_cons_succ, i64_w, i32_w]
     rfl
   refine pure_ (i := 13) (N := some 34) (v := undef) (a' := ?_) qa42_ rfl rfl (any_of HT_.out (by kernel_rfl)) (fun _ _ _ h => h) (Or.inr ⟨by rfl, rfl⟩) ?_ ?_
   rotate_left
   · simp only [Act.put, List.setIfInBounds_toArray, List.set_cons_zero, List.set_cons_succ, i64_w, i32_w]
     rfl
   refine pure_ (i := 14) (N := some 35) (v := undef) (a' := ?_) qa44_ rfl rfl (any_of HT_.out (by kernel_rfl)) (fun _ _ _ h => h) (Or.inr ⟨by rfl, rfl⟩) ?_ ?_
   rotate_left
   · simp only [Act.put, List.setIfInBounds_toArray, List.set_cons_zero, List.set_cons_succ, i64_w, i32_w]
     rfl
   refine pure_ (i := 15) (N := some 36) (v := ?_) (a' := ?_) qa46_ rfl rfl (any_of HT_.out (by kernel_rfl)) (fun _ _ _ h => h) (Or.inl ⟨by rfl, ?_⟩) ?_ ?_
   rotate_left
   · intro w'
     go_simp
     with_reducible rfl
   rotate_left
   · simp only [Act.put, List.setIfInBounds_toArray, List.set_cons_zero, List.set_cons_succ, i64_w, i32_w]
     rfl
   refine pure_ (i := 16) (N := some 37) (v := ?_) (a' := ?_) qa48_ rfl rfl (any_of HT_.out (by kernel_rfl)) (fun _ _ _ h => h) (Or.inl ⟨by rfl, ?_⟩) ?_ ?_
   rotate_left
   · intro w'
     go_simp
     with_reducible rfl
   rotate_left
   · simp only [Act.put, List.setIfInBounds_toArray, List.set_cons_zero, List.set_cons_succ, i64_w, i32_w]
     rfl
   refine pure_ (i := 17) (N := some 38) (v := undef) (a' := ?_) qa50_ rfl rfl (any_of HT_.out (by kernel_rfl)) (fun _ _ _ h => h) (Or.inr ⟨by rfl, rfl⟩) ?_ ?_
   rotate_left
   · simp only [Act.put, List.setIfInBounds_toArray, List.set_cons_zero, List.set_cons_succ, i64_w, i32_w]
     rfl
   refine pure_ (i := 18) (N := some 39) (v := undef) (a' := ?_) qa51_ rfl rfl (any_of HT_.out (by kernel_rfl)) (fun _ _ _ h => h) (Or.inr ⟨by rfl, rfl⟩) ?_ ?_
   rotate_left
   · simp only [Act.put, List.setIfInBounds_toArray, List.set_cons_zero, List.set_cons_succ, i64_w, i32_w]
     rfl
   refine pure_ (i := 19) (N := some 40) (v := undef) (a' := ?_) qa52_ rfl rfl (any_of HT_.out (by kernel_rfl)) (fun _ _ _ h => h) (Or.inr ⟨by rfl, rfl⟩) ?_ ?_
   rotate_left
   · simp only [Act.put, List.setIfInBounds_toArray, List.set_cons_zero, List.set_cons_succ, i64_w, i32_w]
     rfl
   refine pure_ (i := 20) (N := some 41) (v := ?_) (a' := ?_) qa53_ rfl rfl (any_of HT_.out (by kernel_rfl)) (fun _ _ _ h => h) (Or.inl ⟨by rfl, ?_⟩) ?_ ?_
   rotate_left
   · intro w'
     go_simp
     with_reducible rfl
   rotate_left
   · simp only [Act.put, List.setIfInBounds_toArray, List.set_cons_zero, List.set_cons_succ, i64_w, i32_w]
     rfl
   refine pure_ (i := 21) (N := some 42) (v := ?_) (a' := ?_) qa54_ rfl rfl (any_of HT_.out (by kernel_rfl)) (fun _ _ _ h => h) (Or.inl ⟨by rfl, ?_⟩) ?_ ?_
   rotate_left
   · intro w'
     go_simp
     with_reducible rfl
   rotate_left
   · simp only [Act.put, List.setIfInBounds_toArray, List.set_cons_zero, List.set_cons_succ, i64_w, i32_w]
     rfl
   refine pure_ (i := 22) (N := some 43) (v := undef) (a' := ?_) qa55_ rfl rfl (any_of HT_.out (by kernel_rfl)) (fun _ _ _ h => h) (Or.inr ⟨by rfl, rfl⟩) ?_ ?_
   rotate_left
   · simp only [Act.put, List.setIfInBounds_toArray, List.set_cons_zero, List.set_cons_succ, i64_w, i32_w]
     rfl
   refine pure_ (i := 23) (N := some 44) (v := undef) (a' := ?_) qa56_ rfl rfl (any_of HT_.out (by kernel_rfl)) (fun _ _ _ h => h) (Or.inr ⟨by rfl, rfl⟩) ?_ ?_
   rotate_left
   · simp only [Act.put, List.setIfInBounds_toArray, List.set_cons_zero, List.set_cons_succ, i64_w, i32_w]
     rfl
   refine pure_ (i := 24) (N := some 45) (v := undef) (a' := ?_) qa57_ rfl rfl (any_of HT_.out (by kernel_rfl)) (fun _ _ _ h => h) (Or.inr ⟨by rfl, rfl⟩) ?_ ?_
   rotate_left
   · simp only [Act.put, List.setIfInBounds_toArray, List.set_cons_zero, List.set_cons_succ, i64_w, i32_w]
     rfl
   refine pure_ (i := 25) (N := some 46) (v := undef) (a' := ?_) qa58_ rfl rfl (any_of HT_.out (by kernel_rfl)) (fun _ _ _ h => h) (Or.inr ⟨by rfl, rfl⟩) ?_ ?_
   rotate_left
   · simp only [Act.put, List.setIfInBounds_toArray, List.set_cons_zero, List.set_cons_succ, i64_w, i32_w]
     rfl
   refine pure_ (i := 26) (N := some 47) (v := undef) (a' := ?_) qa63_ rfl rfl (any_of HT_.out (by kernel_rfl)) (fun _ _ _ h => h) (Or.inr ⟨by rfl, rfl⟩) ?_ ?_
   rotate_left
   · simp only [Act.put, List.setIfInBounds_toArray, List.set_cons_zero, List.set_cons_succ, i64_w, i32_w]
     rfl
   refine pure_ (i := 27) (N := some 48) (v := undef) (a' := ?_) qa64_ rfl rfl (any_of HT_.out (by kernel_rfl)) (fun _ _ _ h => h) (Or.inr ⟨by rfl, rfl⟩) ?_ ?_
   rotate_left
   · simp only [Act.put, List.setIfInBounds_toArray, List.set_cons_zero, List.set_cons_succ, i64_w, i32_w]
     rfl
   refine pure_ (i := 28) (N := some 49) (v := undef) (a' := ?_) qa65_ rfl rfl (any_of HT_.out (by kernel_rfl)) (fun _ _ _ h => h) (Or.inr ⟨by rfl, rfl⟩) ?_ ?_
   rotate_left
   · simp only [Act.put, List.setIfInBounds_toArray, List.set_cons_zero, List.set_cons_succ, i64_w, i32_w]
     rfl
   refine pure_ (i := 29) (N := some 50) (v := undef) (a' := ?_) qa66_ rfl rfl (any_of HT_.out (by kernel_rfl)) (fun _ _ _ h => h) (Or.inr ⟨by rfl, rfl⟩) ?_ ?_
   rotate_left
   · simp only [Act.put, List.setIfInBounds_toArray, List.set_cons_zero, List.set_cons_succ, i64_w, i32_w]
     rfl
   refine pure_ (i := 30) (N := some 51) (v := undef) (a' := ?_) qa67_ rfl rfl (any_of HT_.out (by kernel_rfl)) (fun _ _ _ h => h) (Or.inr ⟨by rfl, rfl⟩) ?_ ?_
   rotate_left
   · simp only [Act.put, List.setIfInBounds_toArray, List.set_cons_zero, List.set_cons_succ, i64_w, i32_w]
     rfl
   refine pure_ (i := 31) (N := some 52) (v := undef) (a' := ?_) qa68_ rfl rfl (any_of HT_.out (by kernel_rfl)) (fun _ _ _ h => h) (Or.inr ⟨by rfl, rfl⟩) ?_ ?_
   rotate_left
   · simp only [Act.put, List.setIfInBounds_toArray, List.set_cons_zero, List.set_cons_succ, i64_w, i32_w]
     rfl
   refine pure_ (i := 32) (N := some 53) (v := undef) (a' := ?_) qa69_ rfl rfl (any_of HT_.out (by kernel_rfl)) (fun _ _ _ h => h) (Or.inr ⟨by rfl, rfl⟩) ?_ ?_
   rotate_left
   · simp only [Act.put, List.setIfInBounds_toArray, List.set_cons_zero, List.set_cons_succ, i64_w, i32_w]
     rfl
   refine pure_ (i := 33) (N := some 54) (v := ?_) (a' := ?_) qa70_ rfl rfl (any_of HT_.out (by kernel_rfl)) (fun _ _ _ h => h) (Or.inl ⟨by rfl, ?_⟩) ?_ ?_
   rotate_left
   · intro w'
     go_simp
     with_reducible rfl
   rotate_left
   · simp only [Act.put, List.setIfInBounds_toArray, List.set_cons_zero, List.set_cons_succ, i64_w, i32_w]
     rfl
   refine done_ (done_of HT_.out (by kernel_rfl)) ?_
   try go_wp2
   go_meet
   case rel => exact ⟨_, (true), (by first | rfl | (simp; done) | (simp [*]; done)), H', ⟨by first | omega | exact Nat.le_refl _⟩, ⟨by repeat (first | (with_reducible first | exact HB.out | apply bA_ | apply bN_ | apply b1_) | exact HB.out)⟩⟩
  subst c11
  have H1 : (if t456 < 0 then (spec_ShareCrew.j0 k l0 a3 t456 t457 true) else (if t457 < 0 then (spec_ShareCrew.j0 k l0 a3 t456 t457 true) else (if t456 = t457 then (spec_ShareCrew.j0 k l0 a3 t456 t457 true) else ((spec_l1In.f a3 1 8).bind fun t459 => (if t459 = true then (if 0 ≤ t456 then (if t456 < (l0.length : Int) then (if 0 ≤ t457 then (if t457 < (l0.length : Int) then (spec_ShareCrew.j0 k l0 a3 t456 t457 (((rd_T26 l0 t456).f2) != ((rd_T26 l0 t457).f2))) else (none)) else (none)) else (none)) else (none)) else (spec_ShareCrew.j0 k l0 a3 t456 t457 true)))))) = some (r1, r2) := by rw [if_pos rfl] at H; exact H
  clear H
  have H := H1
  clear H1
  by_cases c12 : t456 < 0
  case neg =>
   rw [if_neg c12] at H
   have c12b0 : decide (t456 < 0) = false := decide_eq_false c12
   clear c12
   (first | rw [c12b0] | (simp only [i64_w, i32_w]; rw [c12b0]) | skip)
   by_cases c15 : t457 < 0
   case neg =>
    rw [if_neg c15] at H
    have c15b0 : decide (t457 < 0) = false := decide_eq_false c15
    clear c15
    by_cases c18 : t456 = t457
    case neg =>
     rw [if_neg c18] at H
     have c18b0 : (t456 == t457) = false := beq_eq_false_iff_ne.mpr c18
     have c18b1 : (t456 != t457) = true := bne_iff_ne.mpr c18
     replace H := Option.bind_eq_some_iff.mp H
     obtain ⟨t459, A210, H⟩ := H
     replace H : (if t459 = true then (if 0 ≤ t456 then (if t456 < (l0.length : Int) then (if 0 ≤ t457 then (if t457 < (l0.length : Int) then (spec_ShareCrew.j0 k l0 a3 t456 t457 (((rd_T26 l0 t456).f2) != ((rd_T26 l0 t457).f2))) else (none)) else (none)) else (none)) else (none)) else (spec_ShareCrew.j0 k l0 a3 t456 t457 true)) = some (r1, r2) := H
     have A21 := Aside0.mk A210
     clear A210
     by_cases c22 : t459 = true
     case neg =>
      replace c22 := Bool.eq_false_iff.mpr c22
      subst c22
      have H1 : (spec_ShareCrew.j0 k l0 a3 t456 t457 true) = some (r1, r2) := by rw [if_neg (show ¬ (false = true) by decide)] at H; exact H
      clear H
      have H := H1
      clear H1
      have H' := Aside0.mk H
      clear H
      try go_wp2
      have n0_ := Aside0.mk (below_drew1 HB.out)
      clear HB
      have HB := n0_
      clear n0_
      refine start_ (n := 34) (S := fun w' => True) (ds := []) qa0_ (by kernel_rfl) rfl rfl trivial (fun hHeld => ?_); refine with_tabW spec_ShareCrew.tab2 spec_ShareCrew.bits2 (fun HT_ HW_ => ?_)
      generalize w9.drew = w29 at HB hHeld ⊢
      refine pure_ (i := 0) (N := some 21) (v := ?_) (a' := ?_) qa3_ rfl rfl (any_of HT_.out (by kernel_rfl)) (fun _ _ _ h => h) (Or.inl ⟨by rfl, ?_⟩) ?_ ?_
      rotate_left
      · intro w'
        go_simp
        with_reducible rfl
      rotate_left
      · simp only [Act.put, List.setIfInBounds_toArray, List.set_cons_zero, List.set_cons_succ, i64_w, i32_w]
        rfl
      refine one_ (i := 1) (N := some 22) qa6_ rfl rfl (one_of HT_.out (by kernel_rfl)) (by decide) (fun K hK => ?_)
      refine goes_ Try.func62 (by kernel_rfl) rfl #[.slice A0 l0.length c0] (by rfl) rfl rfl (by (try simp only [List.map_toArray, List.map_cons, List.map_nil]); first | done | rfl) ?_
      with_reducible refine (spec_apFleet.calls k _ _ l0 true _ ?side1 ?side2 A10.out).mono ?_
      (case side1 => repeat (first | exact (Kd.C_below HR0.out HB.out) | (with_reducible refine Kd.C_alloc ?_ _) | (with_reducible refine Kd.C_drewN ?_ _) | (with_reducible refine Kd.C_drew ?_)))
      (case side2 => exact HC0.out)
      rintro e w30 ⟨rfl, hb⟩
      refine ⟨_, rfl, ?_⟩
      have n0_ := Aside0.mk (below_step (by repeat (first | (with_reducible first | exact HB.out | apply bA_ | apply bN_ | apply b1_) | exact HB.out)) hb)
      clear HB
      have HB := n0_
      clear n0_
      (try clear hb)
      (try clear hb2)
      (try clear hk)
      (try clear hi)
      refine hK.out _ _ trivial (fun hHeld => ?_)
      clear hK K
      refine norm_ (a' := ?_) ?_ ?_
      rotate_left
      · show Act.put _ (some 22) _ = _
        simp only [Act.put, List.setIfInBounds_toArray, List.set_cons_zero, List.set_cons_succ, i64_w, i32_w]
        rfl
      refine pure_ (i := 2) (N := some 23) (v := ?_) (a' := ?_) qa9_ rfl rfl (any_of HT_.out (by kernel_rfl)) (fun _ _ _ h => h) (Or.inl ⟨by rfl, ?_⟩) ?_ ?_
      rotate_left
      · intro w'
        go_simp
        with_reducible rfl
      rotate_left
      · simp only [Act.put, List.setIfInBounds_toArray, List.set_cons_zero, List.set_cons_succ, i64_w, i32_w]
        rfl
      refine pure_ (i := 3) (N := some 24) (v := ?_) (a' := ?_) qa15_ rfl rfl (any_of HT_.out (by kernel_rfl)) (fun _ _ _ h => h) (Or.inl ⟨by rfl, ?_⟩) ?_ ?_
      rotate_left
      · intro w'
        go_simp
        with_reducible rfl
      rotate_left
      · simp only [Act.put, List.setIfInBounds_toArray, List.set_cons_zero, List.set_cons_succ, i64_w, i32_w]
        rfl
      refine pure_ (i := 4) (N := some 25) (v := ?_) (a' := ?_) qa17_ rfl rfl (any_of HT_.out (by kernel_rfl)) (fun _ _ _ h => h) (Or.inl ⟨by rfl, ?_⟩) ?_ ?_
      rotate_left
      · intro w'
        go_simp
        with_reducible rfl
      rotate_left
      · simp only [Act.put, List.setIfInBounds_toArray, List.set_cons_zero, List.set_cons_succ, i64_w, i32_w]
        rfl
      refine pure_ (i := 5) (N := some 26) (v := ?_) (a' := ?_) qa19_ rfl rfl (any_of HT_.out (by kernel_rfl)) (fun _ _ _ h => h) (Or.inl ⟨by rfl, ?_⟩) ?_ ?_
      rotate_left
      · intro w'
        go_simp
        with_reducible rfl
      rotate_left
      · simp only [Act.put, List.setIfInBounds_toArray, List.set_cons_zero, List.set_cons_succ, i64_w, i32_w]
        rfl
      refine pure_ (i := 6) (N := some 27) (v := ?_) (a' := ?_) qa21_ rfl rfl (any_of HT_.out (by kernel_rfl)) (fun _ _ _ h => h) (Or.inl ⟨by rfl, ?_⟩) ?_ ?_
      rotate_left
      · intro w'
        go_simp
        with_reducible rfl
      rotate_left
      · simp only [Act.put, List.setIfInBounds_toArray, List.set_cons_zero, List.set_cons_succ, i64_w, i32_w]
        rfl
      refine pure_ (i := 7) (N := some 28) (v := ?_) (a' := ?_) qa24_ rfl rfl (any_of HT_.out (by kernel_rfl)) (fun _ _ _ h => h) (Or.inl ⟨by rfl, ?_⟩) ?_ ?_
      rotate_left
      · intro w'
        go_simp
        with_reducible rfl
      rotate_left
      · simp only [Act.put, List.setIfInBounds_toArray, List.set_cons_zero, List.set_cons_succ, i64_w, i32_w]
        rfl
      refine pure_ (i := 8) (N := some 29) (v := ?_) (a' := ?_) qa28_ rfl rfl (any_of HT_.out (by kernel_rfl)) (fun _ _ _ h => h) (Or.inl ⟨by rfl, ?_⟩) ?_ ?_
      rotate_left
      · intro w'
        go_simp
        with_reducible rfl
      rotate_left
      · simp only [Act.put, List.setIfInBounds_toArray, List.set_cons_zero, List.set_cons_succ, i64_w, i32_w]
        rfl
      refine pure_ (i := 9) (N := some 30) (v := ?_) (a' := ?_) qa31_ rfl rfl (any_of HT_.out (by kernel_rfl)) (fun _ _ _ h => h) (Or.inl ⟨by rfl, ?_⟩) ?_ ?_
      rotate_left
      · intro w'
        go_simp
        with_reducible rfl
      rotate_left
      · simp only [Act.put, List.setIfInBounds_toArray, List.set_cons_zero, List.set_cons_succ, i64_w, i32_w]
        rfl
      refine pure_ (i := 10) (N := some 31) (v := ?_) (a' := ?_) qa34_ rfl rfl (any_of HT_.out (by kernel_rfl)) (fun _ _ _ h => h) (Or.inl ⟨by rfl, ?_⟩) ?_ ?_
      rotate_left
      · intro w'
        go_simp
        with_reducible rfl
      rotate_left
      · simp only [Act.put, List.setIfInBounds_toArray, List.set_cons_zero, List.set_cons_succ, i64_w, i32_w]
        rfl
      refine pure_ (i := 11) (N := some 32) (v := ?_) (a' := ?_) qa37_ rfl rfl (any_of HT_.out (by kernel_rfl)) (fun _ _ _ h => h) (Or.inl ⟨by rfl, ?_⟩) ?_ ?_
      rotate_left
      · intro w'
        go_simp
        with_reducible rfl
      rotate_left
      · simp only [Act.put, List.setIfInBounds_toArray, List.set_cons_zero, List.set_cons_succ, i64_w, i32_w]
        rfl
      refine pure_ (i := 12) (N := some 33) (v := ?_) (a' := ?_) qa40_ rfl rfl (any_of HT_.out (by kernel_rfl)) (fun _ _ _ h => h) (Or.inl ⟨by rfl, ?_⟩) ?_ ?_
      rotate_left
      · intro w'
        go_simp
        with_reducible rfl
      rotate_left
      · simp only [Act.put, List.setIfInBounds_toArray, List.set_cons_zero, List.set_cons_succ, i64_w, i32_w]
        rfl
      refine pure_ (i := 13) (N := some 34) (v := ?_) (a' := ?_) qa42_ rfl rfl (any_of HT_.out (by kernel_rfl)) (fun _ _ _ h => h) (Or.inl ⟨by rfl, ?_⟩) ?_ ?_
      rotate_left
      · intro w'
        go_simp
        with_reducible rfl
      rotate_left
      · simp only [Act.put, List.setIfInBounds_toArray, List.set_cons_zero, List.set_cons_succ, i64_w, i32_w]
        rfl
      refine pure_ (i := 14) (N := some 35) (v := ?_) (a' := ?_) qa44_ rfl rfl (any_of HT_.out (by kernel_rfl)) (fun _ _ _ h => h) (Or.inl ⟨by rfl, ?_⟩) ?_ ?_
      rotate_left
      · intro w'
        go_simp
        with_reducible rfl
      rotate_left
      · simp only [Act.put, List.setIfInBounds_toArray, List.set_cons_zero, List.set_cons_succ, i64_w, i32_w]
        rfl
      refine pure_ (i := 15) (N := some 36) (v := ?_) (a' := ?_) qa46_ rfl rfl (any_of HT_.out (by kernel_rfl)) (fun _ _ _ h => h) (Or.inl ⟨by rfl, ?_⟩) ?_ ?_
      rotate_left
      · intro w'
        go_simp
        with_reducible rfl
      rotate_left
      · simp only [Act.put, List.setIfInBounds_toArray, List.set_cons_zero, List.set_cons_succ, i64_w, i32_w]
        rfl
      refine pure_ (i := 16) (N := some 37) (v := ?_) (a' := ?_) qa48_ rfl rfl (any_of HT_.out (by kernel_rfl)) (fun _ _ _ h => h) (Or.inl ⟨by rfl, ?_⟩) ?_ ?_
      rotate_left
      · intro w'
        go_simp
        with_reducible rfl
      rotate_left
      · simp only [Act.put, List.setIfInBounds_toArray, List.set_cons_zero, List.set_cons_succ, i64_w, i32_w]
        rfl
      refine pure_ (i := 17) (N := some 38) (v := ?_) (a' := ?_) qa50_ rfl rfl (any_of HT_.out (by kernel_rfl)) (fun _ _ _ h => h) (Or.inl ⟨by rfl, ?_⟩) ?_ ?_
      rotate_left
      · intro w'
        go_simp
        with_reducible rfl
      rotate_left
      · simp only [Act.put, List.setIfInBounds_toArray, List.set_cons_zero, List.set_cons_succ, i64_w, i32_w]
        rfl
      refine one_ (i := 18) (N := some 39) qa51_ rfl rfl (one_of HT_.out (by kernel_rfl)) (by decide) (fun K hK => ?_)
      refine goes_ Try.func73 (by kernel_rfl) rfl #[.int .i64 a3, .int .i64 1, .int .i64 8] (by rfl) rfl rfl (by (try simp only [List.map_toArray, List.map_cons, List.map_nil]); first | done | rfl) ?_
      with_reducible refine (spec_l1In.calls a3 1 8 false _ A21.out).mono ?_
      rintro e w' ⟨rfl, ⟨nd, rfl⟩⟩
      refine ⟨_, rfl, ?_⟩
      refine hK.out _ _ trivial (fun hHeld => ?_)
      clear hK K
      refine norm_ (a' := ?_) ?_ ?_
      rotate_left
      · show Act.put _ (some 39) _ = _
        simp only [Act.put, List.setIfInBounds_toArray, List.set_cons_zero, List.set_cons_succ, i64_w, i32_w]
        rfl
      refine pure_ (i := 19) (N := some 40) (v := ?_) (a' := ?_) qa52_ rfl rfl (any_of HT_.out (by kernel_rfl)) (fun _ _ _ h => h) (Or.inl ⟨by rfl, ?_⟩) ?_ ?_
      rotate_left
      · intro w'
        go_simp
        with_reducible rfl
      rotate_left
      · simp only [Act.put, List.setIfInBounds_toArray, List.set_cons_zero, List.set_cons_succ, i64_w, i32_w]
        rfl
      refine pure_ (i := 20) (N := some 41) (v := ?_) (a' := ?_) qa53_ rfl rfl (any_of HT_.out (by kernel_rfl)) (fun _ _ _ h => h) (Or.inl ⟨by rfl, ?_⟩) ?_ ?_
      rotate_left
      · intro w'
        go_simp
        with_reducible rfl
      rotate_left
      · simp only [Act.put, List.setIfInBounds_toArray, List.set_cons_zero, List.set_cons_succ, i64_w, i32_w]
        rfl
      refine pure_ (i := 21) (N := some 42) (v := ?_) (a' := ?_) qa54_ rfl rfl (any_of HT_.out (by kernel_rfl)) (fun _ _ _ h => h) (Or.inl ⟨by rfl, ?_⟩) ?_ ?_
      rotate_left
      · intro w'
        go_simp
        with_reducible rfl
      rotate_left
      · simp only [Act.put, List.setIfInBounds_toArray, List.set_cons_zero, List.set_cons_succ, i64_w, i32_w]
        rfl
      refine pure_ (i := 22) (N := some 43) (v := undef) (a' := ?_) qa55_ rfl rfl (any_of HT_.out (by kernel_rfl)) (fun _ _ _ h => h) (Or.inr ⟨by rfl, rfl⟩) ?_ ?_
      rotate_left
      · simp only [Act.put, List.setIfInBounds_toArray, List.set_cons_zero, List.set_cons_succ, i64_w, i32_w]
        rfl
      refine pure_ (i := 23) (N := some 44) (v := undef) (a' := ?_) qa56_ rfl rfl (any_of HT_.out (by kernel_rfl)) (fun _ _ _ h => h) (Or.inr ⟨by rfl, rfl⟩) ?_ ?_
      rotate_left
      · simp only [Act.put, List.setIfInBounds_toArray, List.set_cons_zero, List.set_cons_succ, i64_w, i32_w]
        rfl
      refine pure_ (i := 24) (N := some 45) (v := undef) (a' := ?_) qa57_ rfl rfl (any_of HT_.out (by kernel_rfl)) (fun _ _ _ h => h) (Or.inr ⟨by rfl, rfl⟩) ?_ ?_
      rotate_left
      · simp only [Act.put, List.setIfInBounds_toArray, List.set_cons_zero, List.set_cons_succ, i64_w, i32_w]
        rfl
      refine pure_ (i := 25) (N := some 46) (v := undef) (a' := ?_) qa58_ rfl rfl (any_of HT_.out (by kernel_rfl)) (fun _ _ _ h => h) (Or.inr ⟨by rfl, rfl⟩) ?_ ?_
      rotate_left
      · simp only [Act.put, List.setIfInBounds_toArray, List.set_cons_zero, List.set_cons_succ, i64_w, i32_w]
        rfl
      refine pure_ (i := 26) (N := some 47) (v := undef) (a' := ?_) qa63_ rfl rfl (any_of HT_.out (by kernel_rfl)) (fun _ _ _ h => h) (Or.inr ⟨by rfl, rfl⟩) ?_ ?_
      rotate_left
      · simp only [Act.put, List.setIfInBounds_toArray, List.set_cons_zero, List.set_cons_succ, i64_w, i32_w]
        rfl
      refine pure_ (i := 27) (N := some 48) (v := undef) (a' := ?_) qa64_ rfl rfl (any_of HT_.out (by kernel_rfl)) (fun _ _ _ h => h) (Or.inr ⟨by rfl, rfl⟩) ?_ ?_
      rotate_left
      · simp only [Act.put, List.setIfInBounds_toArray, List.set_cons_zero, List.set_cons_succ, i64_w, i32_w]
        rfl
      refine pure_ (i := 28) (N := some 49) (v := undef) (a' := ?_) qa65_ rfl rfl (any_of HT_.out (by kernel_rfl)) (fun _ _ _ h => h) (Or.inr ⟨by rfl, rfl⟩) ?_ ?_
      rotate_left
      · simp only [Act.put, List.setIfInBounds_toArray, List.set_cons_zero, List.set_cons_succ, i64_w, i32_w]
        rfl
      refine pure_ (i := 29) (N := some 50) (v := undef) (a' := ?_) qa66_ rfl rfl (any_of HT_.out (by kernel_rfl)) (fun _ _ _ h => h) (Or.inr ⟨by rfl, rfl⟩) ?_ ?_
      rotate_left
      · simp only [Act.put, List.setIfInBounds_toArray, List.set_cons_zero, List.set_cons_succ, i64_w, i32_w]
        rfl
      refine pure_ (i := 30) (N := some 51) (v := undef) (a' := ?_) qa67_ rfl rfl (any_of HT_.out (by kernel_rfl)) (fun _ _ _ h => h) (Or.inr ⟨by rfl, rfl⟩) ?_ ?_
      rotate_left
      · simp only [Act.put, List.setIfInBounds_toArray, List.set_cons_zero, List.set_cons_succ, i64_w, i32_w]
        rfl
      refine pure_ (i := 31) (N := some 52) (v := undef) (a' := ?_) qa68_ rfl rfl (any_of HT_.out (by kernel_rfl)) (fun _ _ _ h => h) (Or.inr ⟨by rfl, rfl⟩) ?_ ?_
      rotate_left
      · simp only [Act.put, List.setIfInBounds_toArray, List.set_cons_zero, List.set_cons_succ, i64_w, i32_w]
        rfl
      refine pure_ (i := 32) (N := some 53) (v := undef) (a' := ?_) qa69_ rfl rfl (any_of HT_.out (by kernel_rfl)) (fun _ _ _ h => h) (Or.inr ⟨by rfl, rfl⟩) ?_ ?_
      rotate_left
      · simp only [Act.put, List.setIfInBounds_toArray, List.set_cons_zero, List.set_cons_succ, i64_w, i32_w]
        rfl
      refine pure_ (i := 33) (N := some 54) (v := ?_) (a' := ?_) qa70_ rfl rfl (any_of HT_.out (by kernel_rfl)) (fun _ _ _ h => h) (Or.inl ⟨by rfl, ?_⟩) ?_ ?_
      rotate_left
      · intro w'
        go_simp
        with_reducible rfl
      rotate_left
      · simp only [Act.put, List.setIfInBounds_toArray, List.set_cons_zero, List.set_cons_succ, i64_w, i32_w]
        rfl
      refine done_ (done_of HT_.out (by kernel_rfl)) ?_
      try go_wp2
      go_meet
      case rel => exact ⟨_, (true), (by first | rfl | (simp; done) | (simp [*]; done)), H', ⟨by first | omega | exact Nat.le_refl _⟩, ⟨by repeat (first | (with_reducible first | exact HB.out | apply bA_ | apply bN_ | apply b1_) | exact HB.out)⟩⟩
     subst c22
     have H1 : (if 0 ≤ t456 then (if t456 < (l0.length : Int) then (if 0 ≤ t457 then (if t457 < (l0.length : Int) then (spec_ShareCrew.j0 k l0 a3 t456 t457 (((rd_T26 l0 t456).f2) != ((rd_T26 l0 t457).f2))) else (none)) else (none)) else (none)) else (none)) = some (r1, r2) := by rw [if_pos rfl] at H; exact H
     clear H
     have H := H1
     clear H1
     by_cases c23 : 0 ≤ t456
     case neg =>
      rw [if_neg c23] at H
      exact absurd H (by simp)
     rw [if_pos c23] at H
     have c23b0 : decide (0 ≤ t456) = true := decide_eq_true c23
     clear c23
     by_cases c24 : t456 < (l0.length : Int)
     case neg =>
      rw [if_neg c24] at H
      exact absurd H (by simp)
     rw [if_pos c24] at H
     have c24b0 : decide (t456 < (l0.length : Int)) = true := decide_eq_true c24
     clear c24
     by_cases c25 : 0 ≤ t457
     case neg =>
      rw [if_neg c25] at H
      exact absurd H (by simp)
     rw [if_pos c25] at H
     have c25b0 : decide (0 ≤ t457) = true := decide_eq_true c25
     clear c25
     by_cases c26 : t457 < (l0.length : Int)
     case neg =>
      rw [if_neg c26] at H
      exact absurd H (by simp)
     rw [if_pos c26] at H
     have c26b0 : decide (t457 < (l0.length : Int)) = true := decide_eq_true c26
     clear c26
     have H' := Aside0.mk H
     clear H
     try go_wp2
     have n0_ := Aside0.mk (below_drew1 HB.out)
     clear HB
     have HB := n0_
     clear n0_
     have p460 : 0 ≤ (t456 : Int) := of_decide_eq_true (by first|with_reducible assumption|assumption)
     have q460 : t456 < (l0.length : Int) := of_decide_eq_true (by first|with_reducible assumption|assumption)
     obtain ⟨ad460, e460, hx460_0, hx460_1, hx460_2, hx460_3, hx460_4⟩ := at_T26 HR0.out t456 p460 q460
     have hw460_4 := hx460_4
     have hw460_3 := hx460_3
     have hw460_2 := hx460_2
     have hw460_1 := hx460_1
     have hw460_0 := hx460_0
     cases e460
     replace hx460_0 := cl_ HB.out hx460_0
     replace hx460_1 := cl_ HB.out hx460_1
     replace hx460_2 := cl_ HB.out hx460_2
     replace hx460_3 := cl_ HB.out hx460_3
     replace hx460_4 := cl_ HB.out hx460_4
     replace p460 := eq_true p460
     replace q460 := eq_true q460
     have p461 : 0 ≤ (t457 : Int) := of_decide_eq_true (by first|with_reducible assumption|assumption)
     have q461 : t457 < (l0.length : Int) := of_decide_eq_true (by first|with_reducible assumption|assumption)
     obtain ⟨ad461, e461, hx461_0, hx461_1, hx461_2, hx461_3, hx461_4⟩ := at_T26 HR0.out t457 p461 q461
     have hw461_4 := hx461_4
     have hw461_3 := hx461_3
     have hw461_2 := hx461_2
     have hw461_1 := hx461_1
     have hw461_0 := hx461_0
     obtain rfl : ad460 = ad461 := (by injection e461)
     replace hx461_0 := cl_ HB.out hx461_0
     replace hx461_1 := cl_ HB.out hx461_1
     replace hx461_2 := cl_ HB.out hx461_2
     replace hx461_3 := cl_ HB.out hx461_3
     replace hx461_4 := cl_ HB.out hx461_4
     replace p461 := eq_true p461
     replace q461 := eq_true q461
     refine start_ (n := 34) (S := fun w' => w'.cell? (ad460.add ((t456).toNat * 5)) = some (.string ((rd_T26 l0 t456).f0)) ∧ w'.cell? ⟨(ad460.add ((t456).toNat * 5)).block, (ad460.add ((t456).toNat * 5)).off + 1, none⟩ = some (.int .i64 ((rd_T26 l0 t456).f1)) ∧ w'.cell? ⟨(ad460.add ((t456).toNat * 5)).block, (ad460.add ((t456).toNat * 5)).off + 2, none⟩ = some (.int .i64 ((rd_T26 l0 t456).f2)) ∧ w'.cell? ⟨(ad460.add ((t456).toNat * 5)).block, (ad460.add ((t456).toNat * 5)).off + 3, none⟩ = some (.int .i64 ((rd_T26 l0 t456).f3)) ∧ w'.cell? ⟨(ad460.add ((t456).toNat * 5)).block, (ad460.add ((t456).toNat * 5)).off + 4, none⟩ = some (.int .i64 ((rd_T26 l0 t456).f4)) ∧ w'.cell? (ad460.add ((t457).toNat * 5)) = some (.string ((rd_T26 l0 t457).f0)) ∧ w'.cell? ⟨(ad460.add ((t457).toNat * 5)).block, (ad460.add ((t457).toNat * 5)).off + 1, none⟩ = some (.int .i64 ((rd_T26 l0 t457).f1)) ∧ w'.cell? ⟨(ad460.add ((t457).toNat * 5)).block, (ad460.add ((t457).toNat * 5)).off + 2, none⟩ = some (.int .i64 ((rd_T26 l0 t457).f2)) ∧ w'.cell? ⟨(ad460.add ((t457).toNat * 5)).block, (ad460.add ((t457).toNat * 5)).off + 3, none⟩ = some (.int .i64 ((rd_T26 l0 t457).f3)) ∧ w'.cell? ⟨(ad460.add ((t457).toNat * 5)).block, (ad460.add ((t457).toNat * 5)).off + 4, none⟩ = some (.int .i64 ((rd_T26 l0 t457).f4))) (ds := []) qa0_ (by kernel_rfl) rfl rfl ⟨((HB.out.cell (World.block_lt_of_cell? w _ hw460_0)).trans hw460_0), ((HB.out.cell (World.block_lt_of_cell? w _ hw460_1)).trans hw460_1), ((HB.out.cell (World.block_lt_of_cell? w _ hw460_2)).trans hw460_2), ((HB.out.cell (World.block_lt_of_cell? w _ hw460_3)).trans hw460_3), ((HB.out.cell (World.block_lt_of_cell? w _ hw460_4)).trans hw460_4), ((HB.out.cell (World.block_lt_of_cell? w _ hw461_0)).trans hw461_0), ((HB.out.cell (World.block_lt_of_cell? w _ hw461_1)).trans hw461_1), ((HB.out.cell (World.block_lt_of_cell? w _ hw461_2)).trans hw461_2), ((HB.out.cell (World.block_lt_of_cell? w _ hw461_3)).trans hw461_3), ((HB.out.cell (World.block_lt_of_cell? w _ hw461_4)).trans hw461_4)⟩ (fun hHeld => ?_); refine with_tabW spec_ShareCrew.tab2 spec_ShareCrew.bits2 (fun HT_ HW_ => ?_)
     generalize w9.drew = w27 at HB hx460_0 hx460_1 hx460_2 hx460_3 hx460_4 hx461_0 hx461_1 hx461_2 hx461_3 hx461_4 hHeld ⊢
     refine pure_ (i := 0) (N := some 21) (v := ?_) (a' := ?_) qa3_ rfl rfl (any_of HT_.out (by kernel_rfl)) (fun _ _ _ h => h) (Or.inl ⟨by rfl, ?_⟩) ?_ ?_
     rotate_left
     · intro w'
       go_simp
       with_reducible rfl
     rotate_left
     · simp only [Act.put, List.setIfInBounds_toArray, List.set_cons_zero, List.set_cons_succ, i64_w, i32_w]
       rfl
     refine one_ (i := 1) (N := some 22) qa6_ rfl rfl (one_of HT_.out (by kernel_rfl)) (by decide) (fun K hK => ?_)
     refine goes_ Try.func62 (by kernel_rfl) rfl #[.slice (some ad460) l0.length c0] (by rfl) rfl rfl (by (try simp only [List.map_toArray, List.map_cons, List.map_nil]); first | done | rfl) ?_
     with_reducible refine (spec_apFleet.calls k _ _ l0 true _ ?side1 ?side2 A10.out).mono ?_
     (case side1 => repeat (first | exact (Kd.C_below HR0.out HB.out) | (with_reducible refine Kd.C_alloc ?_ _) | (with_reducible refine Kd.C_drewN ?_ _) | (with_reducible refine Kd.C_drew ?_)))
     (case side2 => exact HC0.out)
     rintro e w28 ⟨rfl, hb⟩
     refine ⟨_, rfl, ?_⟩
     have n0_ := Aside0.mk (below_step (by repeat (first | (with_reducible first | exact HB.out | apply bA_ | apply bN_ | apply b1_) | exact HB.out)) hb)
     clear HB
     have HB := n0_
     clear n0_
     (try clear hb)
     (try clear hb2)
     (try clear hk)
     (try clear hi)
     refine hK.out _ _ ⟨((HB.out.cell (World.block_lt_of_cell? w _ hw460_0)).trans hw460_0), ((HB.out.cell (World.block_lt_of_cell? w _ hw460_1)).trans hw460_1), ((HB.out.cell (World.block_lt_of_cell? w _ hw460_2)).trans hw460_2), ((HB.out.cell (World.block_lt_of_cell? w _ hw460_3)).trans hw460_3), ((HB.out.cell (World.block_lt_of_cell? w _ hw460_4)).trans hw460_4), ((HB.out.cell (World.block_lt_of_cell? w _ hw461_0)).trans hw461_0), ((HB.out.cell (World.block_lt_of_cell? w _ hw461_1)).trans hw461_1), ((HB.out.cell (World.block_lt_of_cell? w _ hw461_2)).trans hw461_2), ((HB.out.cell (World.block_lt_of_cell? w _ hw461_3)).trans hw461_3), ((HB.out.cell (World.block_lt_of_cell? w _ hw461_4)).trans hw461_4)⟩ (fun hHeld => ?_)
     clear hK K
     refine norm_ (a' := ?_) ?_ ?_
     rotate_left
     · show Act.put _ (some 22) _ = _
       simp only [Act.put, List.setIfInBounds_toArray, List.set_cons_zero, List.set_cons_succ, i64_w, i32_w]
       rfl
     refine pure_ (i := 2) (N := some 23) (v := ?_) (a' := ?_) qa9_ rfl rfl (any_of HT_.out (by kernel_rfl)) (fun _ _ _ h => h) (Or.inl ⟨by rfl, ?_⟩) ?_ ?_
     rotate_left
     · intro w'
       go_simp
       with_reducible rfl
     rotate_left
     · simp only [Act.put, List.setIfInBounds_toArray, List.set_cons_zero, List.set_cons_succ, i64_w, i32_w]
       rfl
     refine pure_ (i := 3) (N := some 24) (v := ?_) (a' := ?_) qa15_ rfl rfl (any_of HT_.out (by kernel_rfl)) (fun _ _ _ h => h) (Or.inl ⟨by rfl, ?_⟩) ?_ ?_
     rotate_left
     · intro w'
       go_simp
       with_reducible rfl
     rotate_left
     · simp only [Act.put, List.setIfInBounds_toArray, List.set_cons_zero, List.set_cons_succ, i64_w, i32_w]
       rfl
     refine pure_ (i := 4) (N := some 25) (v := ?_) (a' := ?_) qa17_ rfl rfl (any_of HT_.out (by kernel_rfl)) (fun _ _ _ h => h) (Or.inl ⟨by rfl, ?_⟩) ?_ ?_
     rotate_left
     · intro w'
       go_simp
       with_reducible rfl
     rotate_left
     · simp only [Act.put, List.setIfInBounds_toArray, List.set_cons_zero, List.set_cons_succ, i64_w, i32_w]
       rfl
     refine pure_ (i := 5) (N := some 26) (v := ?_) (a' := ?_) qa19_ rfl rfl (any_of HT_.out (by kernel_rfl)) (fun _ _ _ h => h) (Or.inl ⟨by rfl, ?_⟩) ?_ ?_
     rotate_left
     · intro w'
       go_simp
       with_reducible rfl
     rotate_left
     · simp only [Act.put, List.setIfInBounds_toArray, List.set_cons_zero, List.set_cons_succ, i64_w, i32_w]
       rfl
     refine pure_ (i := 6) (N := some 27) (v := ?_) (a' := ?_) qa21_ rfl rfl (any_of HT_.out (by kernel_rfl)) (fun _ _ _ h => h) (Or.inl ⟨by rfl, ?_⟩) ?_ ?_
     rotate_left
     · intro w'
       go_simp
       with_reducible rfl
     rotate_left
     · simp only [Act.put, List.setIfInBounds_toArray, List.set_cons_zero, List.set_cons_succ, i64_w, i32_w]
       rfl
     refine pure_ (i := 7) (N := some 28) (v := ?_) (a' := ?_) qa24_ rfl rfl (any_of HT_.out (by kernel_rfl)) (fun _ _ _ h => h) (Or.inl ⟨by rfl, ?_⟩) ?_ ?_
     rotate_left
     · intro w'
       go_simp
       with_reducible rfl
     rotate_left
     · simp only [Act.put, List.setIfInBounds_toArray, List.set_cons_zero, List.set_cons_succ, i64_w, i32_w]
       rfl
     refine pure_ (i := 8) (N := some 29) (v := ?_) (a' := ?_) qa28_ rfl rfl (any_of HT_.out (by kernel_rfl)) (fun _ _ _ h => h) (Or.inl ⟨by rfl, ?_⟩) ?_ ?_
     rotate_left
     · intro w'
       go_simp
       with_reducible rfl
     rotate_left
     · simp only [Act.put, List.setIfInBounds_toArray, List.set_cons_zero, List.set_cons_succ, i64_w, i32_w]
       rfl
     refine pure_ (i := 9) (N := some 30) (v := ?_) (a' := ?_) qa31_ rfl rfl (any_of HT_.out (by kernel_rfl)) (fun _ _ _ h => h) (Or.inl ⟨by rfl, ?_⟩) ?_ ?_
     rotate_left
     · intro w'
       go_simp
       with_reducible rfl
     rotate_left
     · simp only [Act.put, List.setIfInBounds_toArray, List.set_cons_zero, List.set_cons_succ, i64_w, i32_w]
       rfl
     refine pure_ (i := 10) (N := some 31) (v := ?_) (a' := ?_) qa34_ rfl rfl (any_of HT_.out (by kernel_rfl)) (fun _ _ _ h => h) (Or.inl ⟨by rfl, ?_⟩) ?_ ?_
     rotate_left
     · intro w'
       go_simp
       with_reducible rfl
     rotate_left
     · simp only [Act.put, List.setIfInBounds_toArray, List.set_cons_zero, List.set_cons_succ, i64_w, i32_w]
       rfl
     refine pure_ (i := 11) (N := some 32) (v := ?_) (a' := ?_) qa37_ rfl rfl (any_of HT_.out (by kernel_rfl)) (fun _ _ _ h => h) (Or.inl ⟨by rfl, ?_⟩) ?_ ?_
     rotate_left
     · intro w'
       go_simp
       with_reducible rfl
     rotate_left
     · simp only [Act.put, List.setIfInBounds_toArray, List.set_cons_zero, List.set_cons_succ, i64_w, i32_w]
       rfl
     refine pure_ (i := 12) (N := some 33) (v := ?_) (a' := ?_) qa40_ rfl rfl (any_of HT_.out (by kernel_rfl)) (fun _ _ _ h => h) (Or.inl ⟨by rfl, ?_⟩) ?_ ?_
     rotate_left
     · intro w'
       go_simp
       with_reducible rfl
     rotate_left
     · simp only [Act.put, List.setIfInBounds_toArray, List.set_cons_zero, List.set_cons_succ, i64_w, i32_w]
       rfl
     refine pure_ (i := 13) (N := some 34) (v := ?_) (a' := ?_) qa42_ rfl rfl (any_of HT_.out (by kernel_rfl)) (fun _ _ _ h => h) (Or.inl ⟨by rfl, ?_⟩) ?_ ?_
     rotate_left
     · intro w'
       go_simp
       with_reducible rfl
     rotate_left
     · simp only [Act.put, List.setIfInBounds_toArray, List.set_cons_zero, List.set_cons_succ, i64_w, i32_w]
       rfl
     refine pure_ (i := 14) (N := some 35) (v := ?_) (a' := ?_) qa44_ rfl rfl (any_of HT_.out (by kernel_rfl)) (fun _ _ _ h => h) (Or.inl ⟨by rfl, ?_⟩) ?_ ?_
     rotate_left
     · intro w'
       go_simp
       with_reducible rfl
     rotate_left
     · simp only [Act.put, List.setIfInBounds_toArray, List.set_cons_zero, List.set_cons_succ, i64_w, i32_w]
       rfl
     refine pure_ (i := 15) (N := some 36) (v := ?_) (a' := ?_) qa46_ rfl rfl (any_of HT_.out (by kernel_rfl)) (fun _ _ _ h => h) (Or.inl ⟨by rfl, ?_⟩) ?_ ?_
     rotate_left
     · intro w'
       go_simp
       with_reducible rfl
     rotate_left
     · simp only [Act.put, List.setIfInBounds_toArray, List.set_cons_zero, List.set_cons_succ, i64_w, i32_w]
       rfl
     refine pure_ (i := 16) (N := some 37) (v := ?_) (a' := ?_) qa48_ rfl rfl (any_of HT_.out (by kernel_rfl)) (fun _ _ _ h => h) (Or.inl ⟨by rfl, ?_⟩) ?_ ?_
     rotate_left
     · intro w'
       go_simp
       with_reducible rfl
     rotate_left
     · simp only [Act.put, List.setIfInBounds_toArray, List.set_cons_zero, List.set_cons_succ, i64_w, i32_w]
       rfl
     refine pure_ (i := 17) (N := some 38) (v := ?_) (a' := ?_) qa50_ rfl rfl (any_of HT_.out (by kernel_rfl)) (fun _ _ _ h => h) (Or.inl ⟨by rfl, ?_⟩) ?_ ?_
     rotate_left
     · intro w'
       go_simp
       with_reducible rfl
     rotate_left
     · simp only [Act.put, List.setIfInBounds_toArray, List.set_cons_zero, List.set_cons_succ, i64_w, i32_w]
       rfl
     refine one_ (i := 18) (N := some 39) qa51_ rfl rfl (one_of HT_.out (by kernel_rfl)) (by decide) (fun K hK => ?_)
     refine goes_ Try.func73 (by kernel_rfl) rfl #[.int .i64 a3, .int .i64 1, .int .i64 8] (by rfl) rfl rfl (by (try simp only [List.map_toArray, List.map_cons, List.map_nil]); first | done | rfl) ?_
     with_reducible refine (spec_l1In.calls a3 1 8 true _ A21.out).mono ?_
     rintro e w' ⟨rfl, ⟨nd, rfl⟩⟩
     refine ⟨_, rfl, ?_⟩
     refine hK.out _ _ ⟨((HB.out.cell (World.block_lt_of_cell? w _ hw460_0)).trans hw460_0), ((HB.out.cell (World.block_lt_of_cell? w _ hw460_1)).trans hw460_1), ((HB.out.cell (World.block_lt_of_cell? w _ hw460_2)).trans hw460_2), ((HB.out.cell (World.block_lt_of_cell? w _ hw460_3)).trans hw460_3), ((HB.out.cell (World.block_lt_of_cell? w _ hw460_4)).trans hw460_4), ((HB.out.cell (World.block_lt_of_cell? w _ hw461_0)).trans hw461_0), ((HB.out.cell (World.block_lt_of_cell? w _ hw461_1)).trans hw461_1), ((HB.out.cell (World.block_lt_of_cell? w _ hw461_2)).trans hw461_2), ((HB.out.cell (World.block_lt_of_cell? w _ hw461_3)).trans hw461_3), ((HB.out.cell (World.block_lt_of_cell? w _ hw461_4)).trans hw461_4)⟩ (fun hHeld => ?_)
     clear hK K
     refine norm_ (a' := ?_) ?_ ?_
     rotate_left
     · show Act.put _ (some 39) _ = _
       simp only [Act.put, List.setIfInBounds_toArray, List.set_cons_zero, List.set_cons_succ, i64_w, i32_w]
       rfl
     refine pure_ (i := 19) (N := some 40) (v := ?_) (a' := ?_) qa52_ rfl rfl (any_of HT_.out (by kernel_rfl)) (fun _ _ _ h => h) (Or.inl ⟨by rfl, ?_⟩) ?_ ?_
     rotate_left
     · intro w'
       go_simp
       with_reducible rfl
     rotate_left
     · simp only [Act.put, List.setIfInBounds_toArray, List.set_cons_zero, List.set_cons_succ, i64_w, i32_w]
       rfl
     refine pure_ (i := 20) (N := some 41) (v := ?_) (a' := ?_) qa53_ rfl rfl (any_of HT_.out (by kernel_rfl)) (fun _ _ _ h => h) (Or.inl ⟨by rfl, ?_⟩) ?_ ?_
     rotate_left
     · intro w'
       go_simp
       with_reducible rfl
     rotate_left
     · simp only [Act.put, List.setIfInBounds_toArray, List.set_cons_zero, List.set_cons_succ, i64_w, i32_w]
       rfl
     refine pure_ (i := 21) (N := some 42) (v := ?_) (a' := ?_) qa54_ rfl rfl (any_of HT_.out (by kernel_rfl)) (fun _ _ _ h => h) (Or.inl ⟨by rfl, ?_⟩) ?_ ?_
     rotate_left
     · intro w'
       go_simp
       with_reducible rfl
     rotate_left
     · simp only [Act.put, List.setIfInBounds_toArray, List.set_cons_zero, List.set_cons_succ, i64_w, i32_w]
       rfl
     refine pure_ (i := 22) (N := some 43) (v := ?_) (a' := ?_) qa55_ rfl rfl (any_of HT_.out (by kernel_rfl)) (fun _ _ _ h => h) (Or.inl ⟨by rfl, ?_⟩) ?_ ?_
     rotate_left
     · intro w'
       go_simp
       with_reducible rfl
     rotate_left
     · simp only [Act.put, List.setIfInBounds_toArray, List.set_cons_zero, List.set_cons_succ, i64_w, i32_w]
       rfl
     refine pure_ (i := 23) (N := some 44) (v := ?_) (a' := ?_) qa56_ rfl rfl (any_of HT_.out (by kernel_rfl)) (fun _ _ _ h => h) (Or.inl ⟨by rfl, ?_⟩) ?_ ?_
     rotate_left
     · intro w'
       go_simp
       with_reducible rfl
     rotate_left
     · simp only [Act.put, List.setIfInBounds_toArray, List.set_cons_zero, List.set_cons_succ, i64_w, i32_w]
       rfl
     refine pure_ (i := 24) (N := some 45) (v := ?_) (a' := ?_) qa57_ rfl rfl (any_of HT_.out (by kernel_rfl)) (fun _ _ _ h => h) (Or.inl ⟨by rfl, ?_⟩) ?_ ?_
     rotate_left
     · intro w'
       go_simp
       with_reducible rfl
     rotate_left
     · simp only [Act.put, List.setIfInBounds_toArray, List.set_cons_zero, List.set_cons_succ, i64_w, i32_w]
       rfl
     refine pure_ (i := 25) (N := some 46) (v := ?_) (a' := ?_) qa58_ rfl rfl (any_of HT_.out (by kernel_rfl)) (fun _ _ _ h => h) (Or.inl ⟨by rfl, ?_⟩) ?_ ?_
     rotate_left
     · intro w'
       go_simp
       with_reducible rfl
     rotate_left
     · simp only [Act.put, List.setIfInBounds_toArray, List.set_cons_zero, List.set_cons_succ, i64_w, i32_w]
       rfl
     refine pure_ (i := 27) (N := some 48) (v := ?_) (a' := ?_) qa59_ rfl rfl (any_of HT_.out (by kernel_rfl)) (fun _ _ _ h => h) (Or.inl ⟨by rfl, ?_⟩) ?_ ?_
     rotate_left
     · intro w'
       go_simp
       with_reducible rfl
     rotate_left
     · simp only [Act.put, List.setIfInBounds_toArray, List.set_cons_zero, List.set_cons_succ, i64_w, i32_w]
       rfl
     refine pure_ (i := 28) (N := some 49) (v := ?_) (a' := ?_) qa60_ rfl rfl (any_of HT_.out (by kernel_rfl)) (fun _ _ _ h => h) (Or.inl ⟨by rfl, ?_⟩) ?_ ?_
     rotate_left
     · intro w'
       go_simp
       with_reducible rfl
     rotate_left
     · simp only [Act.put, List.setIfInBounds_toArray, List.set_cons_zero, List.set_cons_succ, i64_w, i32_w]
       rfl
     refine pure_ (i := 29) (N := some 50) (v := ?_) (a' := ?_) qa61_ rfl rfl (any_of HT_.out (by kernel_rfl)) (fun _ _ _ h => h) (Or.inl ⟨by rfl, ?_⟩) ?_ ?_
     rotate_left
     · intro w'
       go_simp
       with_reducible rfl
     rotate_left
     · simp only [Act.put, List.setIfInBounds_toArray, List.set_cons_zero, List.set_cons_succ, i64_w, i32_w]
       rfl
     refine pure_ (i := 30) (N := some 51) (v := ?_) (a' := ?_) qa62_ rfl rfl (any_of HT_.out (by kernel_rfl)) (fun _ _ _ h => h) (Or.inl ⟨by rfl, ?_⟩) ?_ ?_
     rotate_left
     · intro w'
       go_simp
       with_reducible rfl
     rotate_left
     · simp only [Act.put, List.setIfInBounds_toArray, List.set_cons_zero, List.set_cons_succ, i64_w, i32_w]
       rfl
     refine take_ (i := 26) (N := some 47) (v := ?_) (a' := ?_) qa67_ rfl rfl (take_ofW HT_.out HW_.out (by kernel_rfl)) (fun _ _ _ h => h) (Or.inl ⟨by rfl, ?_⟩) hHeld ?_ ?_
     rotate_left
     · rintro w' ⟨s0, s1, s2, s3, s4, s5, s6, s7, s8, s9⟩
       go_simp
       with_reducible rfl
     rotate_left
     · simp only [Act.put, List.setIfInBounds_toArray, List.set_cons_zero, List.set_cons_succ, i64_w, i32_w]
       rfl
     refine take_ (i := 31) (N := some 52) (v := ?_) (a' := ?_) qa68_ rfl rfl (take_ofW HT_.out HW_.out (by kernel_rfl)) (fun _ _ _ h => h) (Or.inl ⟨by rfl, ?_⟩) hHeld ?_ ?_
     rotate_left
     · rintro w' ⟨s0, s1, s2, s3, s4, s5, s6, s7, s8, s9⟩
       go_simp
       with_reducible rfl
     rotate_left
     · simp only [Act.put, List.setIfInBounds_toArray, List.set_cons_zero, List.set_cons_succ, i64_w, i32_w]
       rfl
     refine pure_ (i := 32) (N := some 53) (v := ?_) (a' := ?_) qa69_ rfl rfl (any_of HT_.out (by kernel_rfl)) (fun _ _ _ h => h) (Or.inl ⟨by rfl, ?_⟩) ?_ ?_
     rotate_left
     · intro w'
       go_simp
       with_reducible rfl
     rotate_left
     · simp only [Act.put, List.setIfInBounds_toArray, List.set_cons_zero, List.set_cons_succ, i64_w, i32_w]
       rfl
     refine pure_ (i := 33) (N := some 54) (v := ?_) (a' := ?_) qa70_ rfl rfl (any_of HT_.out (by kernel_rfl)) (fun _ _ _ h => h) (Or.inl ⟨by rfl, ?_⟩) ?_ ?_
     rotate_left
     · intro w'
       go_simp
       with_reducible rfl
     rotate_left
     · simp only [Act.put, List.setIfInBounds_toArray, List.set_cons_zero, List.set_cons_succ, i64_w, i32_w]
       rfl
     refine done_ (done_of HT_.out (by kernel_rfl)) ?_
     try go_wp2
     go_meet
     case rel => exact ⟨_, ((((rd_T26 l0 t456).f2) != ((rd_T26 l0 t457).f2))), (by first | rfl | (simp; done) | (simp [*]; done)), H', ⟨by first | omega | exact Nat.le_refl _⟩, ⟨by repeat (first | (with_reducible first | exact HB.out | apply bA_ | apply bN_ | apply b1_) | exact HB.out)⟩⟩
    rw [if_pos c18] at H
    have c18b0 : (t456 == t457) = true := beq_iff_eq.mpr c18
    have c18b1 : (t456 != t457) = false := bne_eq_false_iff_eq.mpr c18
    clear c18
    have H' := Aside0.mk H
    clear H
    try go_wp2
    have n0_ := Aside0.mk (below_drew1 HB.out)
    clear HB
    have HB := n0_
    clear n0_
    refine start_ (n := 34) (S := fun w' => True) (ds := []) qa0_ (by kernel_rfl) rfl rfl trivial (fun hHeld => ?_); refine with_tabW spec_ShareCrew.tab2 spec_ShareCrew.bits2 (fun HT_ HW_ => ?_)
    generalize w9.drew = w19 at HB hHeld ⊢
    refine pure_ (i := 0) (N := some 21) (v := ?_) (a' := ?_) qa3_ rfl rfl (any_of HT_.out (by kernel_rfl)) (fun _ _ _ h => h) (Or.inl ⟨by rfl, ?_⟩) ?_ ?_
    rotate_left
    · intro w'
      go_simp
      with_reducible rfl
    rotate_left
    · simp only [Act.put, List.setIfInBounds_toArray, List.set_cons_zero, List.set_cons_succ, i64_w, i32_w]
      rfl
    refine one_ (i := 1) (N := some 22) qa6_ rfl rfl (one_of HT_.out (by kernel_rfl)) (by decide) (fun K hK => ?_)
    refine goes_ Try.func62 (by kernel_rfl) rfl #[.slice A0 l0.length c0] (by rfl) rfl rfl (by (try simp only [List.map_toArray, List.map_cons, List.map_nil]); first | done | rfl) ?_
    with_reducible refine (spec_apFleet.calls k _ _ l0 true _ ?side1 ?side2 A10.out).mono ?_
    (case side1 => repeat (first | exact (Kd.C_below HR0.out HB.out) | (with_reducible refine Kd.C_alloc ?_ _) | (with_reducible refine Kd.C_drewN ?_ _) | (with_reducible refine Kd.C_drew ?_)))
    (case side2 => exact HC0.out)
    rintro e w20 ⟨rfl, hb⟩
    refine ⟨_, rfl, ?_⟩
    have n0_ := Aside0.mk (below_step (by repeat (first | (with_reducible first | exact HB.out | apply bA_ | apply bN_ | apply b1_) | exact HB.out)) hb)
    clear HB
    have HB := n0_
    clear n0_
    (try clear hb)
    (try clear hb2)
    (try clear hk)
    (try clear hi)
    refine hK.out _ _ trivial (fun hHeld => ?_)
    clear hK K
    refine norm_ (a' := ?_) ?_ ?_
    rotate_left
    · show Act.put _ (some 22) _ = _
      simp only [Act.put, List.setIfInBounds_toArray, List.set_cons_zero, List.set_cons_succ, i64_w, i32_w]
      rfl
    refine pure_ (i := 2) (N := some 23) (v := ?_) (a' := ?_) qa9_ rfl rfl (any_of HT_.out (by kernel_rfl)) (fun _ _ _ h => h) (Or.inl ⟨by rfl, ?_⟩) ?_ ?_
    rotate_left
    · intro w'
      go_simp
      with_reducible rfl
    rotate_left
    · simp only [Act.put, List.setIfInBounds_toArray, List.set_cons_zero, List.set_cons_succ, i64_w, i32_w]
      rfl
    refine pure_ (i := 3) (N := some 24) (v := ?_) (a' := ?_) qa15_ rfl rfl (any_of HT_.out (by kernel_rfl)) (fun _ _ _ h => h) (Or.inl ⟨by rfl, ?_⟩) ?_ ?_
    rotate_left
    · intro w'
      go_simp
      with_reducible rfl
    rotate_left
    · simp only [Act.put, List.setIfInBounds_toArray, List.set_cons_zero, List.set_cons_succ, i64_w, i32_w]
      rfl
    refine pure_ (i := 4) (N := some 25) (v := ?_) (a' := ?_) qa17_ rfl rfl (any_of HT_.out (by kernel_rfl)) (fun _ _ _ h => h) (Or.inl ⟨by rfl, ?_⟩) ?_ ?_
    rotate_left
    · intro w'
      go_simp
      with_reducible rfl
    rotate_left
    · simp only [Act.put, List.setIfInBounds_toArray, List.set_cons_zero, List.set_cons_succ, i64_w, i32_w]
      rfl
    refine pure_ (i := 5) (N := some 26) (v := ?_) (a' := ?_) qa19_ rfl rfl (any_of HT_.out (by kernel_rfl)) (fun _ _ _ h => h) (Or.inl ⟨by rfl, ?_⟩) ?_ ?_
    rotate_left
    · intro w'
      go_simp
      with_reducible rfl
    rotate_left
    · simp only [Act.put, List.setIfInBounds_toArray, List.set_cons_zero, List.set_cons_succ, i64_w, i32_w]
      rfl
    refine pure_ (i := 6) (N := some 27) (v := ?_) (a' := ?_) qa21_ rfl rfl (any_of HT_.out (by kernel_rfl)) (fun _ _ _ h => h) (Or.inl ⟨by rfl, ?_⟩) ?_ ?_
    rotate_left
    · intro w'
      go_simp
      with_reducible rfl
    rotate_left
    · simp only [Act.put, List.setIfInBounds_toArray, List.set_cons_zero, List.set_cons_succ, i64_w, i32_w]
      rfl
    refine pure_ (i := 7) (N := some 28) (v := ?_) (a' := ?_) qa24_ rfl rfl (any_of HT_.out (by kernel_rfl)) (fun _ _ _ h => h) (Or.inl ⟨by rfl, ?_⟩) ?_ ?_
    rotate_left
    · intro w'
      go_simp
      with_reducible rfl
    rotate_left
    · simp only [Act.put, List.setIfInBounds_toArray, List.set_cons_zero, List.set_cons_succ, i64_w, i32_w]
      rfl
    refine pure_ (i := 8) (N := some 29) (v := ?_) (a' := ?_) qa28_ rfl rfl (any_of HT_.out (by kernel_rfl)) (fun _ _ _ h => h) (Or.inl ⟨by rfl, ?_⟩) ?_ ?_
    rotate_left
    · intro w'
      go_simp
      with_reducible rfl
    rotate_left
    · simp only [Act.put, List.setIfInBounds_toArray, List.set_cons_zero, List.set_cons_succ, i64_w, i32_w]
      rfl
    refine pure_ (i := 9) (N := some 30) (v := ?_) (a' := ?_) qa31_ rfl rfl (any_of HT_.out (by kernel_rfl)) (fun _ _ _ h => h) (Or.inl ⟨by rfl, ?_⟩) ?_ ?_
    rotate_left
    · intro w'
      go_simp
      with_reducible rfl
    rotate_left
    · simp only [Act.put, List.setIfInBounds_toArray, List.set_cons_zero, List.set_cons_succ, i64_w, i32_w]
      rfl
    refine pure_ (i := 10) (N := some 31) (v := ?_) (a' := ?_) qa34_ rfl rfl (any_of HT_.out (by kernel_rfl)) (fun _ _ _ h => h) (Or.inl ⟨by rfl, ?_⟩) ?_ ?_
    rotate_left
    · intro w'
      go_simp
      with_reducible rfl
    rotate_left
    · simp only [Act.put, List.setIfInBounds_toArray, List.set_cons_zero, List.set_cons_succ, i64_w, i32_w]
      rfl
    refine pure_ (i := 11) (N := some 32) (v := ?_) (a' := ?_) qa37_ rfl rfl (any_of HT_.out (by kernel_rfl)) (fun _ _ _ h => h) (Or.inl ⟨by rfl, ?_⟩) ?_ ?_
    rotate_left
    · intro w'
      go_simp
      with_reducible rfl
    rotate_left
    · simp only [Act.put, List.setIfInBounds_toArray, List.set_cons_zero, List.set_cons_succ, i64_w, i32_w]
      rfl
    refine pure_ (i := 12) (N := some 33) (v := ?_) (a' := ?_) qa40_ rfl rfl (any_of HT_.out (by kernel_rfl)) (fun _ _ _ h => h) (Or.inl ⟨by rfl, ?_⟩) ?_ ?_
    rotate_left
    · intro w'
      go_simp
      with_reducible rfl
    rotate_left
    · simp only [Act.put, List.setIfInBounds_toArray, List.set_cons_zero, List.set_cons_succ, i64_w, i32_w]
      rfl
    refine pure_ (i := 13) (N := some 34) (v := ?_) (a' := ?_) qa42_ rfl rfl (any_of HT_.out (by kernel_rfl)) (fun _ _ _ h => h) (Or.inl ⟨by rfl, ?_⟩) ?_ ?_
    rotate_left
    · intro w'
      go_simp
      with_reducible rfl
    rotate_left
    · simp only [Act.put, List.setIfInBounds_toArray, List.set_cons_zero, List.set_cons_succ, i64_w, i32_w]
      rfl
    refine pure_ (i := 14) (N := some 35) (v := ?_) (a' := ?_) qa44_ rfl rfl (any_of HT_.out (by kernel_rfl)) (fun _ _ _ h => h) (Or.inl ⟨by rfl, ?_⟩) ?_ ?_
    rotate_left
    · intro w'
      go_simp
      with_reducible rfl
    rotate_left
    · simp only [Act.put, List.setIfInBounds_toArray, List.set_cons_zero, List.set_cons_succ, i64_w, i32_w]
      rfl
    refine pure_ (i := 15) (N := some 36) (v := ?_) (a' := ?_) qa46_ rfl rfl (any_of HT_.out (by kernel_rfl)) (fun _ _ _ h => h) (Or.inl ⟨by rfl, ?_⟩) ?_ ?_
    rotate_left
    · intro w'
      go_simp
      with_reducible rfl
    rotate_left
    · simp only [Act.put, List.setIfInBounds_toArray, List.set_cons_zero, List.set_cons_succ, i64_w, i32_w]
      rfl
    refine pure_ (i := 16) (N := some 37) (v := ?_) (a' := ?_) qa48_ rfl rfl (any_of HT_.out (by kernel_rfl)) (fun _ _ _ h => h) (Or.inl ⟨by rfl, ?_⟩) ?_ ?_
    rotate_left
    · intro w'
      go_simp
      with_reducible rfl
    rotate_left
    · simp only [Act.put, List.setIfInBounds_toArray, List.set_cons_zero, List.set_cons_succ, i64_w, i32_w]
      rfl
    refine pure_ (i := 17) (N := some 38) (v := undef) (a' := ?_) qa50_ rfl rfl (any_of HT_.out (by kernel_rfl)) (fun _ _ _ h => h) (Or.inr ⟨by rfl, rfl⟩) ?_ ?_
    rotate_left
    · simp only [Act.put, List.setIfInBounds_toArray, List.set_cons_zero, List.set_cons_succ, i64_w, i32_w]
      rfl
    refine pure_ (i := 18) (N := some 39) (v := undef) (a' := ?_) qa51_ rfl rfl (any_of HT_.out (by kernel_rfl)) (fun _ _ _ h => h) (Or.inr ⟨by rfl, rfl⟩) ?_ ?_
    rotate_left
    · simp only [Act.put, List.setIfInBounds_toArray, List.set_cons_zero, List.set_cons_succ, i64_w, i32_w]
      rfl
    refine pure_ (i := 19) (N := some 40) (v := undef) (a' := ?_) qa52_ rfl rfl (any_of HT_.out (by kernel_rfl)) (fun _ _ _ h => h) (Or.inr ⟨by rfl, rfl⟩) ?_ ?_
    rotate_left
    · simp only [Act.put, List.setIfInBounds_toArray, List.set_cons_zero, List.set_cons_succ, i64_w, i32_w]
      rfl
    refine pure_ (i := 20) (N := some 41) (v := ?_) (a' := ?_) qa53_ rfl rfl (any_of HT_.out (by kernel_rfl)) (fun _ _ _ h => h) (Or.inl ⟨by rfl, ?_⟩) ?_ ?_
    rotate_left
    · intro w'
      go_simp
      with_reducible rfl
    rotate_left
    · simp only [Act.put, List.setIfInBounds_toArray, List.set_cons_zero, List.set_cons_succ, i64_w, i32_w]
      rfl
    refine pure_ (i := 21) (N := some 42) (v := ?_) (a' := ?_) qa54_ rfl rfl (any_of HT_.out (by kernel_rfl)) (fun _ _ _ h => h) (Or.inl ⟨by rfl, ?_⟩) ?_ ?_
    rotate_left
    · intro w'
      go_simp
      with_reducible rfl
    rotate_left
    · simp only [Act.put, List.setIfInBounds_toArray, List.set_cons_zero, List.set_cons_succ, i64_w, i32_w]
      rfl
    refine pure_ (i := 22) (N := some 43) (v := undef) (a' := ?_) qa55_ rfl rfl (any_of HT_.out (by kernel_rfl)) (fun _ _ _ h => h) (Or.inr ⟨by rfl, rfl⟩) ?_ ?_
    rotate_left
    · simp only [Act.put, List.setIfInBounds_toArray, List.set_cons_zero, List.set_cons_succ, i64_w, i32_w]
      rfl
    refine pure_ (i := 23) (N := some 44) (v := undef) (a' := ?_) qa56_ rfl rfl (any_of HT_.out (by kernel_rfl)) (fun _ _ _ h => h) (Or.inr ⟨by rfl, rfl⟩) ?_ ?_
    rotate_left
    · simp only [Act.put, List.setIfInBounds_toArray, List.set_cons_zero, List.set_cons_succ, i64_w, i32_w]
      rfl
    refine pure_ (i := 24) (N := some 45) (v := undef) (a' := ?_) qa57_ rfl rfl (any_of HT_.out (by kernel_rfl)) (fun _ _ _ h => h) (Or.inr ⟨by rfl, rfl⟩) ?_ ?_
    rotate_left
    · simp only [Act.put, List.setIfInBounds_toArray, List.set_cons_zero, List.set_cons_succ, i64_w, i32_w]
      rfl
    refine pure_ (i := 25) (N := some 46) (v := undef) (a' := ?_) qa58_ rfl rfl (any_of HT_.out (by kernel_rfl)) (fun _ _ _ h => h) (Or.inr ⟨by rfl, rfl⟩) ?_ ?_
    rotate_left
    · simp only [Act.put, List.setIfInBounds_toArray, List.set_cons_zero, List.set_cons_succ, i64_w, i32_w]
      rfl
    refine pure_ (i := 26) (N := some 47) (v := undef) (a' := ?_) qa63_ rfl rfl (any_of HT_.out (by kernel_rfl)) (fun _ _ _ h => h) (Or.inr ⟨by rfl, rfl⟩) ?_ ?_
    rotate_left
    · simp only [Act.put, List.setIfInBounds_toArray, List.set_cons_zero, List.set_cons_succ, i64_w, i32_w]
      rfl
    refine pure_ (i := 27) (N := some 48) (v := undef) (a' := ?_) qa64_ rfl rfl (any_of HT_.out (by kernel_rfl)) (fun _ _ _ h => h) (Or.inr ⟨by rfl, rfl⟩) ?_ ?_
    rotate_left
    · simp only [Act.put, List.setIfInBounds_toArray, List.set_cons_zero, List.set_cons_succ, i64_w, i32_w]
      rfl
    refine pure_ (i := 28) (N := some 49) (v := undef) (a' := ?_) qa65_ rfl rfl (any_of HT_.out (by kernel_rfl)) (fun _ _ _ h => h) (Or.inr ⟨by rfl, rfl⟩) ?_ ?_
    rotate_left
    · simp only [Act.put, List.setIfInBounds_toArray, List.set_cons_zero, List.set_cons_succ, i64_w, i32_w]
      rfl
    refine pure_ (i := 29) (N := some 50) (v := undef) (a' := ?_) qa66_ rfl rfl (any_of HT_.out (by kernel_rfl)) (fun _ _ _ h => h) (Or.inr ⟨by rfl, rfl⟩) ?_ ?_
    rotate_left
    · simp only [Act.put, List.setIfInBounds_toArray, List.set_cons_zero, List.set_cons_succ, i64_w, i32_w]
      rfl
    refine pure_ (i := 30) (N := some 51) (v := undef) (a' := ?_) qa67_ rfl rfl (any_of HT_.out (by kernel_rfl)) (fun _ _ _ h => h) (Or.inr ⟨by rfl, rfl⟩) ?_ ?_
    rotate_left
    · simp only [Act.put, List.setIfInBounds_toArray, List.set_cons_zero, List.set_cons_succ, i64_w, i32_w]
      rfl
    refine pure_ (i := 31) (N := some 52) (v := undef) (a' := ?_) qa68_ rfl rfl (any_of HT_.out (by kernel_rfl)) (fun _ _ _ h => h) (Or.inr ⟨by rfl, rfl⟩) ?_ ?_
    rotate_left
    · simp only [Act.put, List.setIfInBounds_toArray, List.set_cons_zero, List.set_cons_succ, i64_w, i32_w]
      rfl
    refine pure_ (i := 32) (N := some 53) (v := undef) (a' := ?_) qa69_ rfl rfl (any_of HT_.out (by kernel_rfl)) (fun _ _ _ h => h) (Or.inr ⟨by rfl, rfl⟩) ?_ ?_
    rotate_left
    · simp only [Act.put, List.setIfInBounds_toArray, List.set_cons_zero, List.set_cons_succ, i64_w, i32_w]
      rfl
    refine pure_ (i := 33) (N := some 54) (v := ?_) (a' := ?_) qa70_ rfl rfl (any_of HT_.out (by kernel_rfl)) (fun _ _ _ h => h) (Or.inl ⟨by rfl, ?_⟩) ?_ ?_
    rotate_left
    · intro w'
      go_simp
      with_reducible rfl
    rotate_left
    · simp only [Act.put, List.setIfInBounds_toArray, List.set_cons_zero, List.set_cons_succ, i64_w, i32_w]
      rfl
    refine done_ (done_of HT_.out (by kernel_rfl)) ?_
    try go_wp2
    go_meet
    case rel => exact ⟨_, (true), (by first | rfl | (simp; done) | (simp [*]; done)), H', ⟨by first | omega | exact Nat.le_refl _⟩, ⟨by repeat (first | (with_reducible first | exact HB.out | apply bA_ | apply bN_ | apply b1_) | exact HB.out)⟩⟩
   rw [if_pos c15] at H
   have c15b0 : decide (t457 < 0) = true := decide_eq_true c15
   clear c15
   have H' := Aside0.mk H
   clear H
   try go_wp2
   have n0_ := Aside0.mk (below_drew1 HB.out)
   clear HB
   have HB := n0_
   clear n0_
   refine start_ (n := 34) (S := fun w' => True) (ds := []) qa0_ (by kernel_rfl) rfl rfl trivial (fun hHeld => ?_); refine with_tabW spec_ShareCrew.tab2 spec_ShareCrew.bits2 (fun HT_ HW_ => ?_)
   generalize w9.drew = w16 at HB hHeld ⊢
   refine pure_ (i := 0) (N := some 21) (v := ?_) (a' := ?_) qa3_ rfl rfl (any_of HT_.out (by kernel_rfl)) (fun _ _ _ h => h) (Or.inl ⟨by rfl, ?_⟩) ?_ ?_
   rotate_left
   · intro w'
     go_simp
     with_reducible rfl
   rotate_left
   · simp only [Act.put, List.setIfInBounds_toArray, List.set_cons_zero, List.set_cons_succ, i64_w, i32_w]
     rfl
   refine one_ (i := 1) (N := some 22) qa6_ rfl rfl (one_of HT_.out (by kernel_rfl)) (by decide) (fun K hK => ?_)
   refine goes_ Try.func62 (by kernel_rfl) rfl #[.slice A0 l0.length c0] (by rfl) rfl rfl (by (try simp only [List.map_toArray, List.map_cons, List.map_nil]); first | done | rfl) ?_
   with_reducible refine (spec_apFleet.calls k _ _ l0 true _ ?side1 ?side2 A10.out).mono ?_
   (case side1 => repeat (first | exact (Kd.C_below HR0.out HB.out) | (with_reducible refine Kd.C_alloc ?_ _) | (with_reducible refine Kd.C_drewN ?_ _) | (with_reducible refine Kd.C_drew ?_)))
   (case side2 => exact HC0.out)
   rintro e w17 ⟨rfl, hb⟩
   refine ⟨_, rfl, ?_⟩
   have n0_ := Aside0.mk (below_step (by repeat (first | (with_reducible first | exact HB.out | apply bA_ | apply bN_ | apply b1_) | exact HB.out)) hb)
   clear HB
   have HB := n0_
   clear n0_
   (try clear hb)
   (try clear hb2)
   (try clear hk)
   (try clear hi)
   refine hK.out _ _ trivial (fun hHeld => ?_)
   clear hK K
   refine norm_ (a' := ?_) ?_ ?_
   rotate_left
   · show Act.put _ (some 22) _ = _
     simp only [Act.put, List.setIfInBounds_toArray, List.set_cons_zero, List.set_cons_succ, i64_w, i32_w]
     rfl
   refine pure_ (i := 2) (N := some 23) (v := ?_) (a' := ?_) qa9_ rfl rfl (any_of HT_.out (by kernel_rfl)) (fun _ _ _ h => h) (Or.inl ⟨by rfl, ?_⟩) ?_ ?_
   rotate_left
   · intro w'
     go_simp
     with_reducible rfl
   rotate_left
   · simp only [Act.put, List.setIfInBounds_toArray, List.set_cons_zero, List.set_cons_succ, i64_w, i32_w]
     rfl
   refine pure_ (i := 3) (N := some 24) (v := ?_) (a' := ?_) qa15_ rfl rfl (any_of HT_.out (by kernel_rfl)) (fun _ _ _ h => h) (Or.inl ⟨by rfl, ?_⟩) ?_ ?_
   rotate_left
   · intro w'
     go_simp
     with_reducible rfl
   rotate_left
   · simp only [Act.put, List.setIfInBounds_toArray, List.set_cons_zero, List.set_cons_succ, i64_w, i32_w]
     rfl
   refine pure_ (i := 4) (N := some 25) (v := ?_) (a' := ?_) qa17_ rfl rfl (any_of HT_.out (by kernel_rfl)) (fun _ _ _ h => h) (Or.inl ⟨by rfl, ?_⟩) ?_ ?_
   rotate_left
   · intro w'
     go_simp
     with_reducible rfl
   rotate_left
   · simp only [Act.put, List.setIfInBounds_toArray, List.set_cons_zero, List.set_cons_succ, i64_w, i32_w]
     rfl
   refine pure_ (i := 5) (N := some 26) (v := ?_) (a' := ?_) qa19_ rfl rfl (any_of HT_.out (by kernel_rfl)) (fun _ _ _ h => h) (Or.inl ⟨by rfl, ?_⟩) ?_ ?_
   rotate_left
   · intro w'
     go_simp
     with_reducible rfl
   rotate_left
   · simp only [Act.put, List.setIfInBounds_toArray, List.set_cons_zero, List.set_cons_succ, i64_w, i32_w]
     rfl
   refine pure_ (i := 6) (N := some 27) (v := ?_) (a' := ?_) qa21_ rfl rfl (any_of HT_.out (by kernel_rfl)) (fun _ _ _ h => h) (Or.inl ⟨by rfl, ?_⟩) ?_ ?_
   rotate_left
   · intro w'
     go_simp
     with_reducible rfl
   rotate_left
   · simp only [Act.put, List.setIfInBounds_toArray, List.set_cons_zero, List.set_cons_succ, i64_w, i32_w]
     rfl
   refine pure_ (i := 7) (N := some 28) (v := ?_) (a' := ?_) qa24_ rfl rfl (any_of HT_.out (by kernel_rfl)) (fun _ _ _ h => h) (Or.inl ⟨by rfl, ?_⟩) ?_ ?_
   rotate_left
   · intro w'
     go_simp
     with_reducible rfl
   rotate_left
   · simp only [Act.put, List.setIfInBounds_toArray, List.set_cons_zero, List.set_cons_succ, i64_w, i32_w]
     rfl
   refine pure_ (i := 8) (N := some 29) (v := ?_) (a' := ?_) qa28_ rfl rfl (any_of HT_.out (by kernel_rfl)) (fun _ _ _ h => h) (Or.inl ⟨by rfl, ?_⟩) ?_ ?_
   rotate_left
   · intro w'
     go_simp
     with_reducible rfl
   rotate_left
   · simp only [Act.put, List.setIfInBounds_toArray, List.set_cons_zero, List.set_cons_succ, i64_w, i32_w]
     rfl
   refine pure_ (i := 9) (N := some 30) (v := ?_) (a' := ?_) qa31_ rfl rfl (any_of HT_.out (by kernel_rfl)) (fun _ _ _ h => h) (Or.inl ⟨by rfl, ?_⟩) ?_ ?_
   rotate_left
   · intro w'
     go_simp
     with_reducible rfl
   rotate_left
   · simp only [Act.put, List.setIfInBounds_toArray, List.set_cons_zero, List.set_cons_succ, i64_w, i32_w]
     rfl
   refine pure_ (i := 10) (N := some 31) (v := ?_) (a' := ?_) qa34_ rfl rfl (any_of HT_.out (by kernel_rfl)) (fun _ _ _ h => h) (Or.inl ⟨by rfl, ?_⟩) ?_ ?_
   rotate_left
   · intro w'
     go_simp
     with_reducible rfl
   rotate_left
   · simp only [Act.put, List.setIfInBounds_toArray, List.set_cons_zero, List.set_cons_succ, i64_w, i32_w]
     rfl
   refine pure_ (i := 11) (N := some 32) (v := ?_) (a' := ?_) qa37_ rfl rfl (any_of HT_.out (by kernel_rfl)) (fun _ _ _ h => h) (Or.inl ⟨by rfl, ?_⟩) ?_ ?_
   rotate_left
   · intro w'
     go_simp
     with_reducible rfl
   rotate_left
   · simp only [Act.put, List.setIfInBounds_toArray, List.set_cons_zero, List.set_cons_succ, i64_w, i32_w]
     rfl
   refine pure_ (i := 12) (N := some 33) (v := undef) (a' := ?_) qa40_ rfl rfl (any_of HT_.out (by kernel_rfl)) (fun _ _ _ h => h) (Or.inr ⟨by rfl, rfl⟩) ?_ ?_
   rotate_left
   · simp only [Act.put, List.setIfInBounds_toArray, List.set_cons_zero, List.set_cons_succ, i64_w, i32_w]
     rfl
   refine pure_ (i := 13) (N := some 34) (v := undef) (a' := ?_) qa42_ rfl rfl (any_of HT_.out (by kernel_rfl)) (fun _ _ _ h => h) (Or.inr ⟨by rfl, rfl⟩) ?_ ?_
   rotate_left
   · simp only [Act.put, List.setIfInBounds_toArray, List.set_cons_zero, List.set_cons_succ, i64_w, i32_w]
     rfl
   refine pure_ (i := 14) (N := some 35) (v := undef) (a' := ?_) qa44_ rfl rfl (any_of HT_.out (by kernel_rfl)) (fun _ _ _ h => h) (Or.inr ⟨by rfl, rfl⟩) ?_ ?_
   rotate_left
   · simp only [Act.put, List.setIfInBounds_toArray, List.set_cons_zero, List.set_cons_succ, i64_w, i32_w]
     rfl
   refine pure_ (i := 15) (N := some 36) (v := ?_) (a' := ?_) qa46_ rfl rfl (any_of HT_.out (by kernel_rfl)) (fun _ _ _ h => h) (Or.inl ⟨by rfl, ?_⟩) ?_ ?_
   rotate_left
   · intro w'
     go_simp
     with_reducible rfl
   rotate_left
   · simp only [Act.put, List.setIfInBounds_toArray, List.set_cons_zero, List.set_cons_succ, i64_w, i32_w]
     rfl
   refine pure_ (i := 16) (N := some 37) (v := ?_) (a' := ?_) qa48_ rfl rfl (any_of HT_.out (by kernel_rfl)) (fun _ _ _ h => h) (Or.inl ⟨by rfl, ?_⟩) ?_ ?_
   rotate_left
   · intro w'
     go_simp
     with_reducible rfl
   rotate_left
   · simp only [Act.put, List.setIfInBounds_toArray, List.set_cons_zero, List.set_cons_succ, i64_w, i32_w]
     rfl
   refine pure_ (i := 17) (N := some 38) (v := undef) (a' := ?_) qa50_ rfl rfl (any_of HT_.out (by kernel_rfl)) (fun _ _ _ h => h) (Or.inr ⟨by rfl, rfl⟩) ?_ ?_
   rotate_left
   · simp only [Act.put, List.setIfInBounds_toArray, List.set_cons_zero, List.set_cons_succ, i64_w, i32_w]
     rfl
   refine pure_ (i := 18) (N := some 39) (v := undef) (a' := ?_) qa51_ rfl rfl (any_of HT_.out (by kernel_rfl)) (fun _ _ _ h => h) (Or.inr ⟨by rfl, rfl⟩) ?_ ?_
   rotate_left
   · simp only [Act.put, List.setIfInBounds_toArray, List.set_cons_zero, List.set_cons_succ, i64_w, i32_w]
     rfl
   refine pure_ (i := 19) (N := some 40) (v := undef) (a' := ?_) qa52_ rfl rfl (any_of HT_.out (by kernel_rfl)) (fun _ _ _ h => h) (Or.inr ⟨by rfl, rfl⟩) ?_ ?_
   rotate_left
   · simp only [Act.put, List.setIfInBounds_toArray, List.set_cons_zero, List.set_cons_succ, i64_w, i32_w]
     rfl
   refine pure_ (i := 20) (N := some 41) (v := ?_) (a' := ?_) qa53_ rfl rfl (any_of HT_.out (by kernel_rfl)) (fun _ _ _ h => h) (Or.inl ⟨by rfl, ?_⟩) ?_ ?_
   rotate_left
   · intro w'
     go_simp
     with_reducible rfl
   rotate_left
   · simp only [Act.put, List.setIfInBounds_toArray, List.set_cons_zero, List.set_cons_succ, i64_w, i32_w]
     rfl
   refine pure_ (i := 21) (N := some 42) (v := ?_) (a' := ?_) qa54_ rfl rfl (any_of HT_.out (by kernel_rfl)) (fun _ _ _ h => h) (Or.inl ⟨by rfl, ?_⟩) ?_ ?_
   rotate_left
   · intro w'
     go_simp
     with_reducible rfl
   rotate_left
   · simp only [Act.put, List.setIfInBounds_toArray, List.set_cons_zero, List.set_cons_succ, i64_w, i32_w]
     rfl
   refine pure_ (i := 22) (N := some 43) (v := undef) (a' := ?_) qa55_ rfl rfl (any_of HT_.out (by kernel_rfl)) (fun _ _ _ h => h) (Or.inr ⟨by rfl, rfl⟩) ?_ ?_
   rotate_left
   · simp only [Act.put, List.setIfInBounds_toArray, List.set_cons_zero, List.set_cons_succ, i64_w, i32_w]
     rfl
   refine pure_ (i := 23) (N := some 44) (v := undef) (a' := ?_) qa56_ rfl rfl (any_of HT_.out (by kernel_rfl)) (fun _ _ _ h => h) (Or.inr ⟨by rfl, rfl⟩) ?_ ?_
   rotate_left
   · simp only [Act.put, List.setIfInBounds_toArray, List.set_cons_zero, List.set_cons_succ, i64_w, i32_w]
     rfl
   refine pure_ (i := 24) (N := some 45) (v := undef) (a' := ?_) qa57_ rfl rfl (any_of HT_.out (by kernel_rfl)) (fun _ _ _ h => h) (Or.inr ⟨by rfl, rfl⟩) ?_ ?_
   rotate_left
   · simp only [Act.put, List.setIfInBounds_toArray, List.set_cons_zero, List.set_cons_succ, i64_w, i32_w]
     rfl
   refine pure_ (i := 25) (N := some 46) (v := undef) (a' := ?_) qa58_ rfl rfl (any_of HT_.out (by kernel_rfl)) (fun _ _ _ h => h) (Or.inr ⟨by rfl, rfl⟩) ?_ ?_
   rotate_left
   · simp only [Act.put, List.setIfInBounds_toArray, List.set_cons_zero, List.set_cons_succ, i64_w, i32_w]
     rfl
   refine pure_ (i := 26) (N := some 47) (v := undef) (a' := ?_) qa63_ rfl rfl (any_of HT_.out (by kernel_rfl)) (fun _ _ _ h => h) (Or.inr ⟨by rfl, rfl⟩) ?_ ?_
   rotate_left
   · simp only [Act.put, List.setIfInBounds_toArray, List.set_cons_zero, List.set_cons_succ, i64_w, i32_w]
     rfl
   refine pure_ (i := 27) (N := some 48) (v := undef) (a' := ?_) qa64_ rfl rfl (any_of HT_.out (by kernel_rfl)) (fun _ _ _ h => h) (Or.inr ⟨by rfl, rfl⟩) ?_ ?_
   rotate_left
   · simp only [Act.put, List.setIfInBounds_toArray, List.set_cons_zero, List.set_cons_succ, i64_w, i32_w]
     rfl
   refine pure_ (i := 28) (N := some 49) (v := undef) (a' := ?_) qa65_ rfl rfl (any_of HT_.out (by kernel_rfl)) (fun _ _ _ h => h) (Or.inr ⟨by rfl, rfl⟩) ?_ ?_
   rotate_left
   · simp only [Act.put, List.setIfInBounds_toArray, List.set_cons_zero, List.set_cons_succ, i64_w, i32_w]
     rfl
   refine pure_ (i := 29) (N := some 50) (v := undef) (a' := ?_) qa66_ rfl rfl (any_of HT_.out (by kernel_rfl)) (fun _ _ _ h => h) (Or.inr ⟨by rfl, rfl⟩) ?_ ?_
   rotate_left
   · simp only [Act.put, List.setIfInBounds_toArray, List.set_cons_zero, List.set_cons_succ, i64_w, i32_w]
     rfl
   refine pure_ (i := 30) (N := some 51) (v := undef) (a' := ?_) qa67_ rfl rfl (any_of HT_.out (by kernel_rfl)) (fun _ _ _ h => h) (Or.inr ⟨by rfl, rfl⟩) ?_ ?_
   rotate_left
   · simp only [Act.put, List.setIfInBounds_toArray, List.set_cons_zero, List.set_cons_succ, i64_w, i32_w]
     rfl
   refine pure_ (i := 31) (N := some 52) (v := undef) (a' := ?_) qa68_ rfl rfl (any_of HT_.out (by kernel_rfl)) (fun _ _ _ h => h) (Or.inr ⟨by rfl, rfl⟩) ?_ ?_
   rotate_left
   · simp only [Act.put, List.setIfInBounds_toArray, List.set_cons_zero, List.set_cons_succ, i64_w, i32_w]
     rfl
   refine pure_ (i := 32) (N := some 53) (v := undef) (a' := ?_) qa69_ rfl rfl (any_of HT_.out (by kernel_rfl)) (fun _ _ _ h => h) (Or.inr ⟨by rfl, rfl⟩) ?_ ?_
   rotate_left
   · simp only [Act.put, List.setIfInBounds_toArray, List.set_cons_zero, List.set_cons_succ, i64_w, i32_w]
     rfl
   refine pure_ (i := 33) (N := some 54) (v := ?_) (a' := ?_) qa70_ rfl rfl (any_of HT_.out (by kernel_rfl)) (fun _ _ _ h => h) (Or.inl ⟨by rfl, ?_⟩) ?_ ?_
   rotate_left
   · intro w'
     go_simp
     with_reducible rfl
   rotate_left
   · simp only [Act.put, List.setIfInBounds_toArray, List.set_cons_zero, List.set_cons_succ, i64_w, i32_w]
     rfl
   refine done_ (done_of HT_.out (by kernel_rfl)) ?_
   try go_wp2
   go_meet
   case rel => exact ⟨_, (true), (by first | rfl | (simp; done) | (simp [*]; done)), H', ⟨by first | omega | exact Nat.le_refl _⟩, ⟨by repeat (first | (with_reducible first | exact HB.out | apply bA_ | apply bN_ | apply b1_) | exact HB.out)⟩⟩
  rw [if_pos c12] at H
  have c12b0 : decide (t456 < 0) = true := decide_eq_true c12
  clear c12
  (first | rw [c12b0] | (simp only [i64_w, i32_w]; rw [c12b0]) | skip)
  have H' := Aside0.mk H
  clear H
  try go_wp2
  have n0_ := Aside0.mk (below_drew1 HB.out)
  clear HB
  have HB := n0_
  clear n0_
  refine start_ (n := 34) (S := fun w' => True) (ds := []) qa0_ (by kernel_rfl) rfl rfl trivial (fun hHeld => ?_); refine with_tabW spec_ShareCrew.tab2 spec_ShareCrew.bits2 (fun HT_ HW_ => ?_)
  generalize w9.drew = w13 at HB hHeld ⊢
  refine pure_ (i := 0) (N := some 21) (v := ?_) (a' := ?_) qa3_ rfl rfl (any_of HT_.out (by kernel_rfl)) (fun _ _ _ h => h) (Or.inl ⟨by rfl, ?_⟩) ?_ ?_
  rotate_left
  · intro w'
    go_simp
    with_reducible rfl
  rotate_left
  · simp only [Act.put, List.setIfInBounds_toArray, List.set_cons_zero, List.set_cons_succ, i64_w, i32_w]
    rfl
  refine one_ (i := 1) (N := some 22) qa6_ rfl rfl (one_of HT_.out (by kernel_rfl)) (by decide) (fun K hK => ?_)
  refine goes_ Try.func62 (by kernel_rfl) rfl #[.slice A0 l0.length c0] (by rfl) rfl rfl (by (try simp only [List.map_toArray, List.map_cons, List.map_nil]); first | done | rfl) ?_
  with_reducible refine (spec_apFleet.calls k _ _ l0 true _ ?side1 ?side2 A10.out).mono ?_
  (case side1 => repeat (first | exact (Kd.C_below HR0.out HB.out) | (with_reducible refine Kd.C_alloc ?_ _) | (with_reducible refine Kd.C_drewN ?_ _) | (with_reducible refine Kd.C_drew ?_)))
  (case side2 => exact HC0.out)
  rintro e w14 ⟨rfl, hb⟩
  refine ⟨_, rfl, ?_⟩
  have n0_ := Aside0.mk (below_step (by repeat (first | (with_reducible first | exact HB.out | apply bA_ | apply bN_ | apply b1_) | exact HB.out)) hb)
  clear HB
  have HB := n0_
  clear n0_
  (try clear hb)
  (try clear hb2)
  (try clear hk)
  (try clear hi)
  refine hK.out _ _ trivial (fun hHeld => ?_)
  clear hK K
  refine norm_ (a' := ?_) ?_ ?_
  rotate_left
  · show Act.put _ (some 22) _ = _
    simp only [Act.put, List.setIfInBounds_toArray, List.set_cons_zero, List.set_cons_succ, i64_w, i32_w]
    rfl
  refine pure_ (i := 2) (N := some 23) (v := ?_) (a' := ?_) qa9_ rfl rfl (any_of HT_.out (by kernel_rfl)) (fun _ _ _ h => h) (Or.inl ⟨by rfl, ?_⟩) ?_ ?_
  rotate_left
  · intro w'
    go_simp
    with_reducible rfl
  rotate_left
  · simp only [Act.put, List.setIfInBounds_toArray, List.set_cons_zero, List.set_cons_succ, i64_w, i32_w]
    rfl
  refine pure_ (i := 3) (N := some 24) (v := ?_) (a' := ?_) qa15_ rfl rfl (any_of HT_.out (by kernel_rfl)) (fun _ _ _ h => h) (Or.inl ⟨by rfl, ?_⟩) ?_ ?_
  rotate_left
  · intro w'
    go_simp
    with_reducible rfl
  rotate_left
  · simp only [Act.put, List.setIfInBounds_toArray, List.set_cons_zero, List.set_cons_succ, i64_w, i32_w]
    rfl
  refine pure_ (i := 4) (N := some 25) (v := ?_) (a' := ?_) qa17_ rfl rfl (any_of HT_.out (by kernel_rfl)) (fun _ _ _ h => h) (Or.inl ⟨by rfl, ?_⟩) ?_ ?_
  rotate_left
  · intro w'
    go_simp
    with_reducible rfl
  rotate_left
  · simp only [Act.put, List.setIfInBounds_toArray, List.set_cons_zero, List.set_cons_succ, i64_w, i32_w]
    rfl
  refine pure_ (i := 5) (N := some 26) (v := ?_) (a' := ?_) qa19_ rfl rfl (any_of HT_.out (by kernel_rfl)) (fun _ _ _ h => h) (Or.inl ⟨by rfl, ?_⟩) ?_ ?_
  rotate_left
  · intro w'
    go_simp
    with_reducible rfl
  rotate_left
  · simp only [Act.put, List.setIfInBounds_toArray, List.set_cons_zero, List.set_cons_succ, i64_w, i32_w]
    rfl
  refine pure_ (i := 6) (N := some 27) (v := ?_) (a' := ?_) qa21_ rfl rfl (any_of HT_.out (by kernel_rfl)) (fun _ _ _ h => h) (Or.inl ⟨by rfl, ?_⟩) ?_ ?_
  rotate_left
  · intro w'
    go_simp
    with_reducible rfl
  rotate_left
  · simp only [Act.put, List.setIfInBounds_toArray, List.set_cons_zero, List.set_cons_succ, i64_w, i32_w]
    rfl
  refine pure_ (i := 7) (N := some 28) (v := ?_) (a' := ?_) qa24_ rfl rfl (any_of HT_.out (by kernel_rfl)) (fun _ _ _ h => h) (Or.inl ⟨by rfl, ?_⟩) ?_ ?_
  rotate_left
  · intro w'
    go_simp
    with_reducible rfl
  rotate_left
  · simp only [Act.put, List.setIfInBounds_toArray, List.set_cons_zero, List.set_cons_succ, i64_w, i32_w]
    rfl
  refine pure_ (i := 8) (N := some 29) (v := undef) (a' := ?_) qa28_ rfl rfl (any_of HT_.out (by kernel_rfl)) (fun _ _ _ h => h) (Or.inr ⟨by rfl, rfl⟩) ?_ ?_
  rotate_left
  · simp only [Act.put, List.setIfInBounds_toArray, List.set_cons_zero, List.set_cons_succ, i64_w, i32_w]
    rfl
  refine pure_ (i := 9) (N := some 30) (v := undef) (a' := ?_) qa31_ rfl rfl (any_of HT_.out (by kernel_rfl)) (fun _ _ _ h => h) (Or.inr ⟨by rfl, rfl⟩) ?_ ?_
  rotate_left
  · simp only [Act.put, List.setIfInBounds_toArray, List.set_cons_zero, List.set_cons_succ, i64_w, i32_w]
    rfl
  refine pure_ (i := 10) (N := some 31) (v := ?_) (a' := ?_) qa34_ rfl rfl (any_of HT_.out (by kernel_rfl)) (fun _ _ _ h => h) (Or.inl ⟨by rfl, ?_⟩) ?_ ?_
  rotate_left
  · intro w'
    go_simp
    with_reducible rfl
  rotate_left
  · simp only [Act.put, List.setIfInBounds_toArray, List.set_cons_zero, List.set_cons_succ, i64_w, i32_w]
    rfl
  refine pure_ (i := 11) (N := some 32) (v := ?_) (a' := ?_) qa37_ rfl rfl (any_of HT_.out (by kernel_rfl)) (fun _ _ _ h => h) (Or.inl ⟨by rfl, ?_⟩) ?_ ?_
  rotate_left
  · intro w'
    go_simp
    with_reducible rfl
  rotate_left
  · simp only [Act.put, List.setIfInBounds_toArray, List.set_cons_zero, List.set_cons_succ, i64_w, i32_w]
    rfl
  refine pure_ (i := 12) (N := some 33) (v := undef) (a' := ?_) qa40_ rfl rfl (any_of HT_.out (by kernel_rfl)) (fun _ _ _ h => h) (Or.inr ⟨by rfl, rfl⟩) ?_ ?_
  rotate_left
  · simp only [Act.put, List.setIfInBounds_toArray, List.set_cons_zero, List.set_cons_succ, i64_w, i32_w]
    rfl
  refine pure_ (i := 13) (N := some 34) (v := undef) (a' := ?_) qa42_ rfl rfl (any_of HT_.out (by kernel_rfl)) (fun _ _ _ h => h) (Or.inr ⟨by rfl, rfl⟩) ?_ ?_
  rotate_left
  · simp only [Act.put, List.setIfInBounds_toArray, List.set_cons_zero, List.set_cons_succ, i64_w, i32_w]
    rfl
  refine pure_ (i := 14) (N := some 35) (v := undef) (a' := ?_) qa44_ rfl rfl (any_of HT_.out (by kernel_rfl)) (fun _ _ _ h => h) (Or.inr ⟨by rfl, rfl⟩) ?_ ?_
  rotate_left
  · simp only [Act.put, List.setIfInBounds_toArray, List.set_cons_zero, List.set_cons_succ, i64_w, i32_w]
    rfl
  refine pure_ (i := 15) (N := some 36) (v := ?_) (a' := ?_) qa46_ rfl rfl (any_of HT_.out (by kernel_rfl)) (fun _ _ _ h => h) (Or.inl ⟨by rfl, ?_⟩) ?_ ?_
  rotate_left
  · intro w'
    go_simp
    with_reducible rfl
  rotate_left
  · simp only [Act.put, List.setIfInBounds_toArray, List.set_cons_zero, List.set_cons_succ, i64_w, i32_w]
    rfl
  refine pure_ (i := 16) (N := some 37) (v := ?_) (a' := ?_) qa48_ rfl rfl (any_of HT_.out (by kernel_rfl)) (fun _ _ _ h => h) (Or.inl ⟨by rfl, ?_⟩) ?_ ?_
  rotate_left
  · intro w'
    go_simp
    with_reducible rfl
  rotate_left
  · simp only [Act.put, List.setIfInBounds_toArray, List.set_cons_zero, List.set_cons_succ, i64_w, i32_w]
    rfl
  refine pure_ (i := 17) (N := some 38) (v := undef) (a' := ?_) qa50_ rfl rfl (any_of HT_.out (by kernel_rfl)) (fun _ _ _ h => h) (Or.inr ⟨by rfl, rfl⟩) ?_ ?_
  rotate_left
  · simp only [Act.put, List.setIfInBounds_toArray, List.set_cons_zero, List.set_cons_succ, i64_w, i32_w]
    rfl
  refine pure_ (i := 18) (N := some 39) (v := undef) (a' := ?_) qa51_ rfl rfl (any_of HT_.out (by kernel_rfl)) (fun _ _ _ h => h) (Or.inr ⟨by rfl, rfl⟩) ?_ ?_
  rotate_left
  · simp only [Act.put, List.setIfInBounds_toArray, List.set_cons_zero, List.set_cons_succ, i64_w, i32_w]
    rfl
  refine pure_ (i := 19) (N := some 40) (v := undef) (a' := ?_) qa52_ rfl rfl (any_of HT_.out (by kernel_rfl)) (fun _ _ _ h => h) (Or.inr ⟨by rfl, rfl⟩) ?_ ?_
  rotate_left
  · simp only [Act.put, List.setIfInBounds_toArray, List.set_cons_zero, List.set_cons_succ, i64_w, i32_w]
    rfl
  refine pure_ (i := 20) (N := some 41) (v := ?_) (a' := ?_) qa53_ rfl rfl (any_of HT_.out (by kernel_rfl)) (fun _ _ _ h => h) (Or.inl ⟨by rfl, ?_⟩) ?_ ?_
  rotate_left
  · intro w'
    go_simp
    with_reducible rfl
  rotate_left
  · simp only [Act.put, List.setIfInBounds_toArray, List.set_cons_zero, List.set_cons_succ, i64_w, i32_w]
    rfl
  refine pure_ (i := 21) (N := some 42) (v := ?_) (a' := ?_) qa54_ rfl rfl (any_of HT_.out (by kernel_rfl)) (fun _ _ _ h => h) (Or.inl ⟨by rfl, ?_⟩) ?_ ?_
  rotate_left
  · intro w'
    go_simp
    with_reducible rfl
  rotate_left
  · simp only [Act.put, List.setIfInBounds_toArray, List.set_cons_zero, List.set_cons_succ, i64_w, i32_w]
    rfl
  refine pure_ (i := 22) (N := some 43) (v := undef) (a' := ?_) qa55_ rfl rfl (any_of HT_.out (by kernel_rfl)) (fun _ _ _ h => h) (Or.inr ⟨by rfl, rfl⟩) ?_ ?_
  rotate_left
  · simp only [Act.put, List.setIfInBounds_toArray, List.set_cons_zero, List.set_cons_succ, i64_w, i32_w]
    rfl
  refine pure_ (i := 23) (N := some 44) (v := undef) (a' := ?_) qa56_ rfl rfl (any_of HT_.out (by kernel_rfl)) (fun _ _ _ h => h) (Or.inr ⟨by rfl, rfl⟩) ?_ ?_
  rotate_left
  · simp only [Act.put, List.setIfInBounds_toArray, List.set_cons_zero, List.set_cons_succ, i64_w, i32_w]
    rfl
  refine pure_ (i := 24) (N := some 45) (v := undef) (a' := ?_) qa57_ rfl rfl (any_of HT_.out (by kernel_rfl)) (fun _ _ _ h => h) (Or.inr ⟨by rfl, rfl⟩) ?_ ?_
  rotate_left
  · simp only [Act.put, List.setIfInBounds_toArray, List.set_cons_zero, List.set_cons_succ, i64_w, i32_w]
    rfl
  refine pure_ (i := 25) (N := some 46) (v := undef) (a' := ?_) qa58_ rfl rfl (any_of HT_.out (by kernel_rfl)) (fun _ _ _ h => h) (Or.inr ⟨by rfl, rfl⟩) ?_ ?_
  rotate_left
  · simp only [Act.put, List.setIfInBounds_toArray, List.set_cons_zero, List.set_cons_succ, i64_w, i32_w]
    rfl
  refine pure_ (i := 26) (N := some 47) (v := undef) (a' := ?_) qa63_ rfl rfl (any_of HT_.out (by kernel_rfl)) (fun _ _ _ h => h) (Or.inr ⟨by rfl, rfl⟩) ?_ ?_
  rotate_left
  · simp only [Act.put, List.setIfInBounds_toArray, List.set_cons_zero, List.set_cons_succ, i64_w, i32_w]
    rfl
  refine pure_ (i := 27) (N := some 48) (v := undef) (a' := ?_) qa64_ rfl rfl (any_of HT_.out (by kernel_rfl)) (fun _ _ _ h => h) (Or.inr ⟨by rfl, rfl⟩) ?_ ?_
  rotate_left
  · simp only [Act.put, List.setIfInBounds_toArray, List.set_cons_zero, List.set_cons_succ, i64_w, i32_w]
    rfl
  refine pure_ (i := 28) (N := some 49) (v := undef) (a' := ?_) qa65_ rfl rfl (any_of HT_.out (by kernel_rfl)) (fun _ _ _ h => h) (Or.inr ⟨by rfl, rfl⟩) ?_ ?_
  rotate_left
  · simp only [Act.put, List.setIfInBounds_toArray, List.set_cons_zero, List.set_cons_succ, i64_w, i32_w]
    rfl
  refine pure_ (i := 29) (N := some 50) (v := undef) (a' := ?_) qa66_ rfl rfl (any_of HT_.out (by kernel_rfl)) (fun _ _ _ h => h) (Or.inr ⟨by rfl, rfl⟩) ?_ ?_
  rotate_left
  · simp only [Act.put, List.setIfInBounds_toArray, List.set_cons_zero, List.set_cons_succ, i64_w, i32_w]
    rfl
  refine pure_ (i := 30) (N := some 51) (v := undef) (a' := ?_) qa67_ rfl rfl (any_of HT_.out (by kernel_rfl)) (fun _ _ _ h => h) (Or.inr ⟨by rfl, rfl⟩) ?_ ?_
  rotate_left
  · simp only [Act.put, List.setIfInBounds_toArray, List.set_cons_zero, List.set_cons_succ, i64_w, i32_w]
    rfl
  refine pure_ (i := 31) (N := some 52) (v := undef) (a' := ?_) qa68_ rfl rfl (any_of HT_.out (by kernel_rfl)) (fun _ _ _ h => h) (Or.inr ⟨by rfl, rfl⟩) ?_ ?_
  rotate_left
  · simp only [Act.put, List.setIfInBounds_toArray, List.set_cons_zero, List.set_cons_succ, i64_w, i32_w]
    rfl
  refine pure_ (i := 32) (N := some 53) (v := undef) (a' := ?_) qa69_ rfl rfl (any_of HT_.out (by kernel_rfl)) (fun _ _ _ h => h) (Or.inr ⟨by rfl, rfl⟩) ?_ ?_
  rotate_left
  · simp only [Act.put, List.setIfInBounds_toArray, List.set_cons_zero, List.set_cons_succ, i64_w, i32_w]
    rfl
  refine pure_ (i := 33) (N := some 54) (v := ?_) (a' := ?_) qa70_ rfl rfl (any_of HT_.out (by kernel_rfl)) (fun _ _ _ h => h) (Or.inl ⟨by rfl, ?_⟩) ?_ ?_
  rotate_left
  · intro w'
    go_simp
    with_reducible rfl
  rotate_left
  · simp only [Act.put, List.setIfInBounds_toArray, List.set_cons_zero, List.set_cons_succ, i64_w, i32_w]
    rfl
  refine done_ (done_of HT_.out (by kernel_rfl)) ?_
  try go_wp2
  go_meet
  case rel => exact ⟨_, (true), (by first | rfl | (simp; done) | (simp [*]; done)), H', ⟨by first | omega | exact Nat.le_refl _⟩, ⟨by repeat (first | (with_reducible first | exact HB.out | apply bA_ | apply bN_ | apply b1_) | exact HB.out)⟩⟩
 case rest =>
  clear HC7
  try clear c1
  try clear c2
  try clear p2
  try clear c6
  try clear c7
  try clear c11
  try clear c22
  try clear c23
  try clear c24
  try clear c25
  try clear c26
  obtain ⟨kq, x54_6, rfl, HA, HJ6, HB⟩ := hcut
  cases kq with
  | zero => exact absurd HA.out (by simp [spec_ShareCrew.j0])
  | succ kj6 =>
   have H := HA.out
   clear HA
   simp only [spec_ShareCrew.j0] at H
   by_cases c33 : x54_6 = true
   case neg =>
    replace c33 := Bool.eq_false_iff.mpr c33
    subst c33
    have H1 : (if 0 ≤ t456 then (if t456 < (l0.length : Int) then (if 0 ≤ t457 then (if t457 < (l0.length : Int) then ((spec_apWith.f l0 t456 ((rd_T26 l0 t456).f0) ((rd_T26 l0 t456).f1) ((rd_T26 l0 t456).f2) (wrap64 (((rd_T26 l0 t456).f3) - a3)) ((rd_T26 l0 t456).f4)).bind fun t466 => ((spec_apWith.f t466 t457 ((rd_T26 l0 t457).f0) ((rd_T26 l0 t457).f1) ((rd_T26 l0 t457).f2) (wrap64 (((rd_T26 l0 t457).f3) + a3)) ((rd_T26 l0 t457).f4)).bind fun t469 => ((spec_apFleet.f kj6 t469).bind fun t472 => (if t472 = true then (some (t469, true)) else (some (([] : List (S26)), false)))))) else (none)) else (none)) else (none)) else (none)) = some (r1, r2) := by rw [if_neg (show ¬ (false = true) by decide)] at H; exact H
    clear H
    have H := H1
    clear H1
    by_cases c34 : 0 ≤ t456
    case neg =>
     rw [if_neg c34] at H
     exact absurd H (by simp)
    rw [if_pos c34] at H
    have c34b0 : decide (0 ≤ t456) = true := decide_eq_true c34
    clear c34
    by_cases c35 : t456 < (l0.length : Int)
    case neg =>
     rw [if_neg c35] at H
     exact absurd H (by simp)
    rw [if_pos c35] at H
    have c35b0 : decide (t456 < (l0.length : Int)) = true := decide_eq_true c35
    clear c35
    by_cases c36 : 0 ≤ t457
    case neg =>
     rw [if_neg c36] at H
     exact absurd H (by simp)
    rw [if_pos c36] at H
    have c36b0 : decide (0 ≤ t457) = true := decide_eq_true c36
    clear c36
    by_cases c37 : t457 < (l0.length : Int)
    case neg =>
     rw [if_neg c37] at H
     exact absurd H (by simp)
    rw [if_pos c37] at H
    have c37b0 : decide (t457 < (l0.length : Int)) = true := decide_eq_true c37
    clear c37
    replace H := Option.bind_eq_some_iff.mp H
    obtain ⟨t466, A380, H⟩ := H
    replace H : ((spec_apWith.f t466 t457 ((rd_T26 l0 t457).f0) ((rd_T26 l0 t457).f1) ((rd_T26 l0 t457).f2) (wrap64 (((rd_T26 l0 t457).f3) + a3)) ((rd_T26 l0 t457).f4)).bind fun t469 => ((spec_apFleet.f kj6 t469).bind fun t472 => (if t472 = true then (some (t469, true)) else (some (([] : List (S26)), false))))) = some (r1, r2) := H
    have A38 := Aside0.mk A380
    clear A380
    replace H := Option.bind_eq_some_iff.mp H
    obtain ⟨t469, A390, H⟩ := H
    replace H : ((spec_apFleet.f kj6 t469).bind fun t472 => (if t472 = true then (some (t469, true)) else (some (([] : List (S26)), false)))) = some (r1, r2) := H
    have A39 := Aside0.mk A390
    clear A390
    replace H := Option.bind_eq_some_iff.mp H
    obtain ⟨t472, A400, H⟩ := H
    replace H : (if t472 = true then (some (t469, true)) else (some (([] : List (S26)), false))) = some (r1, r2) := H
    have A40 := Aside0.mk A400
    clear A400
    by_cases c41 : t472 = true
    case neg =>
     replace c41 := Bool.eq_false_iff.mpr c41
     subst c41
     have H1 : (some (([] : List (S26)), false)) = some (r1, r2) := by rw [if_neg (show ¬ (false = true) by decide)] at H; exact H
     clear H
     have H := H1
     clear H1
     simp only [Option.some.injEq, Prod.mk.injEq] at H
     obtain ⟨rfl, rfl⟩ := H
     try go_wp2
     have n0_ := Aside0.mk (below_drew1 HB.out)
     clear HB
     have HB := n0_
     clear n0_
     have p462 : 0 ≤ (t456 : Int) := of_decide_eq_true (by first|with_reducible assumption|assumption)
     have q462 : t456 < (l0.length : Int) := of_decide_eq_true (by first|with_reducible assumption|assumption)
     obtain ⟨ad462, e462, hx462_0, hx462_1, hx462_2, hx462_3, hx462_4⟩ := at_T26 HR0.out t456 p462 q462
     have hw462_4 := hx462_4
     have hw462_3 := hx462_3
     have hw462_2 := hx462_2
     have hw462_1 := hx462_1
     have hw462_0 := hx462_0
     cases e462
     replace hx462_0 := cl_ HB.out hx462_0
     replace hx462_1 := cl_ HB.out hx462_1
     replace hx462_2 := cl_ HB.out hx462_2
     replace hx462_3 := cl_ HB.out hx462_3
     replace hx462_4 := cl_ HB.out hx462_4
     replace p462 := eq_true p462
     replace q462 := eq_true q462
     have p463 : 0 ≤ (t457 : Int) := of_decide_eq_true (by first|with_reducible assumption|assumption)
     have q463 : t457 < (l0.length : Int) := of_decide_eq_true (by first|with_reducible assumption|assumption)
     obtain ⟨ad463, e463, hx463_0, hx463_1, hx463_2, hx463_3, hx463_4⟩ := at_T26 HR0.out t457 p463 q463
     have hw463_4 := hx463_4
     have hw463_3 := hx463_3
     have hw463_2 := hx463_2
     have hw463_1 := hx463_1
     have hw463_0 := hx463_0
     obtain rfl : ad462 = ad463 := (by injection e463)
     replace hx463_0 := cl_ HB.out hx463_0
     replace hx463_1 := cl_ HB.out hx463_1
     replace hx463_2 := cl_ HB.out hx463_2
     replace hx463_3 := cl_ HB.out hx463_3
     replace hx463_4 := cl_ HB.out hx463_4
     replace p463 := eq_true p463
     replace q463 := eq_true q463
     refine start_ (n := 12) (S := fun w' => w'.cell? (ad462.add ((t456).toNat * 5)) = some (.string ((rd_T26 l0 t456).f0)) ∧ w'.cell? ⟨(ad462.add ((t456).toNat * 5)).block, (ad462.add ((t456).toNat * 5)).off + 1, none⟩ = some (.int .i64 ((rd_T26 l0 t456).f1)) ∧ w'.cell? ⟨(ad462.add ((t456).toNat * 5)).block, (ad462.add ((t456).toNat * 5)).off + 2, none⟩ = some (.int .i64 ((rd_T26 l0 t456).f2)) ∧ w'.cell? ⟨(ad462.add ((t456).toNat * 5)).block, (ad462.add ((t456).toNat * 5)).off + 3, none⟩ = some (.int .i64 ((rd_T26 l0 t456).f3)) ∧ w'.cell? ⟨(ad462.add ((t456).toNat * 5)).block, (ad462.add ((t456).toNat * 5)).off + 4, none⟩ = some (.int .i64 ((rd_T26 l0 t456).f4)) ∧ w'.cell? (ad462.add ((t457).toNat * 5)) = some (.string ((rd_T26 l0 t457).f0)) ∧ w'.cell? ⟨(ad462.add ((t457).toNat * 5)).block, (ad462.add ((t457).toNat * 5)).off + 1, none⟩ = some (.int .i64 ((rd_T26 l0 t457).f1)) ∧ w'.cell? ⟨(ad462.add ((t457).toNat * 5)).block, (ad462.add ((t457).toNat * 5)).off + 2, none⟩ = some (.int .i64 ((rd_T26 l0 t457).f2)) ∧ w'.cell? ⟨(ad462.add ((t457).toNat * 5)).block, (ad462.add ((t457).toNat * 5)).off + 3, none⟩ = some (.int .i64 ((rd_T26 l0 t457).f3)) ∧ w'.cell? ⟨(ad462.add ((t457).toNat * 5)).block, (ad462.add ((t457).toNat * 5)).off + 4, none⟩ = some (.int .i64 ((rd_T26 l0 t457).f4))) (ds := []) qa2_ (by kernel_rfl) rfl rfl ⟨((HB.out.cell (World.block_lt_of_cell? w _ hw462_0)).trans hw462_0), ((HB.out.cell (World.block_lt_of_cell? w _ hw462_1)).trans hw462_1), ((HB.out.cell (World.block_lt_of_cell? w _ hw462_2)).trans hw462_2), ((HB.out.cell (World.block_lt_of_cell? w _ hw462_3)).trans hw462_3), ((HB.out.cell (World.block_lt_of_cell? w _ hw462_4)).trans hw462_4), ((HB.out.cell (World.block_lt_of_cell? w _ hw463_0)).trans hw463_0), ((HB.out.cell (World.block_lt_of_cell? w _ hw463_1)).trans hw463_1), ((HB.out.cell (World.block_lt_of_cell? w _ hw463_2)).trans hw463_2), ((HB.out.cell (World.block_lt_of_cell? w _ hw463_3)).trans hw463_3), ((HB.out.cell (World.block_lt_of_cell? w _ hw463_4)).trans hw463_4)⟩ (fun hHeld => ?_); refine with_tabW spec_ShareCrew.tab4 spec_ShareCrew.bits4 (fun HT_ HW_ => ?_)
     generalize wc.drew = w66 at HB hx462_0 hx462_1 hx462_2 hx462_3 hx462_4 hx463_0 hx463_1 hx463_2 hx463_3 hx463_4 hHeld ⊢
     refine pure_ (i := 0) (N := some 55) (v := ?_) (a' := ?_) qa5_ rfl rfl (any_of HT_.out (by kernel_rfl)) (fun _ _ _ h => h) (Or.inl ⟨by rfl, ?_⟩) ?_ ?_
     rotate_left
     · intro w'
       go_simp
       with_reducible rfl
     rotate_left
     · simp only [Act.put, List.setIfInBounds_toArray, List.set_cons_zero, List.set_cons_succ, i64_w, i32_w]
       rfl
     refine pure_ (i := 1) (N := some 56) (v := ?_) (a' := ?_) qa8_ rfl rfl (any_of HT_.out (by kernel_rfl)) (fun _ _ _ h => h) (Or.inl ⟨by rfl, ?_⟩) ?_ ?_
     rotate_left
     · intro w'
       go_simp
       with_reducible rfl
     rotate_left
     · simp only [Act.put, List.setIfInBounds_toArray, List.set_cons_zero, List.set_cons_succ, i64_w, i32_w]
       rfl
     refine pure_ (i := 2) (N := some 57) (v := ?_) (a' := ?_) qa11_ rfl rfl (any_of HT_.out (by kernel_rfl)) (fun _ _ _ h => h) (Or.inl ⟨by rfl, ?_⟩) ?_ ?_
     rotate_left
     · intro w'
       go_simp
       with_reducible rfl
     rotate_left
     · simp only [Act.put, List.setIfInBounds_toArray, List.set_cons_zero, List.set_cons_succ, i64_w, i32_w]
       rfl
     refine pure_ (i := 4) (N := some 59) (v := ?_) (a' := ?_) qa12_ rfl rfl (any_of HT_.out (by kernel_rfl)) (fun _ _ _ h => h) (Or.inl ⟨by rfl, ?_⟩) ?_ ?_
     rotate_left
     · intro w'
       go_simp
       with_reducible rfl
     rotate_left
     · simp only [Act.put, List.setIfInBounds_toArray, List.set_cons_zero, List.set_cons_succ, i64_w, i32_w]
       rfl
     refine pure_ (i := 5) (N := some 60) (v := ?_) (a' := ?_) qa13_ rfl rfl (any_of HT_.out (by kernel_rfl)) (fun _ _ _ h => h) (Or.inl ⟨by rfl, ?_⟩) ?_ ?_
     rotate_left
     · intro w'
       go_simp
       with_reducible rfl
     rotate_left
     · simp only [Act.put, List.setIfInBounds_toArray, List.set_cons_zero, List.set_cons_succ, i64_w, i32_w]
       rfl
     refine pure_ (i := 6) (N := some 61) (v := ?_) (a' := ?_) qa14_ rfl rfl (any_of HT_.out (by kernel_rfl)) (fun _ _ _ h => h) (Or.inl ⟨by rfl, ?_⟩) ?_ ?_
     rotate_left
     · intro w'
       go_simp
       with_reducible rfl
     rotate_left
     · simp only [Act.put, List.setIfInBounds_toArray, List.set_cons_zero, List.set_cons_succ, i64_w, i32_w]
       rfl
     refine take_ (i := 3) (N := some 58) (v := ?_) (a' := ?_) qa23_ rfl rfl (take_ofW HT_.out HW_.out (by kernel_rfl)) (fun _ _ _ h => h) (Or.inl ⟨by rfl, ?_⟩) hHeld ?_ ?_
     rotate_left
     · rintro w' ⟨s0, s1, s2, s3, s4, s5, s6, s7, s8, s9⟩
       go_simp
       with_reducible rfl
     rotate_left
     · simp only [Act.put, List.setIfInBounds_toArray, List.set_cons_zero, List.set_cons_succ, i64_w, i32_w]
       rfl
     refine take_ (i := 7) (N := some 62) (v := ?_) (a' := ?_) qa26_ rfl rfl (take_ofW HT_.out HW_.out (by kernel_rfl)) (fun _ _ _ h => h) (Or.inl ⟨by rfl, ?_⟩) hHeld ?_ ?_
     rotate_left
     · rintro w' ⟨s0, s1, s2, s3, s4, s5, s6, s7, s8, s9⟩
       go_simp
       with_reducible rfl
     rotate_left
     · simp only [Act.put, List.setIfInBounds_toArray, List.set_cons_zero, List.set_cons_succ, i64_w, i32_w]
       rfl
     refine join_ (σ := Nat × Nat) 2 qa33_ (fun s_ => [(12, .pointer (some ⟨s_.1, 0, none⟩)), (13, .pointer (some ⟨s_.2, 0, none⟩))]) (fun s_ w' => (w'.cell? (ad462.add ((t456).toNat * 5)) = some (.string ((rd_T26 l0 t456).f0)) ∧ w'.cell? ⟨(ad462.add ((t456).toNat * 5)).block, (ad462.add ((t456).toNat * 5)).off + 1, none⟩ = some (.int .i64 ((rd_T26 l0 t456).f1)) ∧ w'.cell? ⟨(ad462.add ((t456).toNat * 5)).block, (ad462.add ((t456).toNat * 5)).off + 2, none⟩ = some (.int .i64 ((rd_T26 l0 t456).f2)) ∧ w'.cell? ⟨(ad462.add ((t456).toNat * 5)).block, (ad462.add ((t456).toNat * 5)).off + 3, none⟩ = some (.int .i64 ((rd_T26 l0 t456).f3)) ∧ w'.cell? ⟨(ad462.add ((t456).toNat * 5)).block, (ad462.add ((t456).toNat * 5)).off + 4, none⟩ = some (.int .i64 ((rd_T26 l0 t456).f4)) ∧ w'.cell? (ad462.add ((t457).toNat * 5)) = some (.string ((rd_T26 l0 t457).f0)) ∧ w'.cell? ⟨(ad462.add ((t457).toNat * 5)).block, (ad462.add ((t457).toNat * 5)).off + 1, none⟩ = some (.int .i64 ((rd_T26 l0 t457).f1)) ∧ w'.cell? ⟨(ad462.add ((t457).toNat * 5)).block, (ad462.add ((t457).toNat * 5)).off + 2, none⟩ = some (.int .i64 ((rd_T26 l0 t457).f2)) ∧ w'.cell? ⟨(ad462.add ((t457).toNat * 5)).block, (ad462.add ((t457).toNat * 5)).off + 3, none⟩ = some (.int .i64 ((rd_T26 l0 t457).f3)) ∧ w'.cell? ⟨(ad462.add ((t457).toNat * 5)).block, (ad462.add ((t457).toNat * 5)).off + 4, none⟩ = some (.int .i64 ((rd_T26 l0 t457).f4))) ∧ (w'.heap[s_.1]? = some (.cells #[.string (⟨#[]⟩ : ByteArray), .int .i64 0, .int .i64 0, .int .i64 0, .int .i64 0] 26 (0, 0))) ∧ (w'.heap[s_.2]? = some (.cells #[.string (⟨#[]⟩ : ByteArray), .int .i64 0, .int .i64 0, .int .i64 0, .int .i64 0] 26 (0, 0))) ∧ (w.heap.size ≤ s_.1) ∧ (w.heap.size ≤ s_.1) ∧ (s_.2 ≠ s_.1) ∧ (s_.1 ≠ s_.2) ∧ (w.heap.size ≤ s_.2) ∧ (w.heap.size ≤ s_.2) ∧ (Below w.heap.size w w')) ?_ ?_
     rotate_left
     · intro hCont
       refine two_ (i := 8) (j := 9) (Ni := some 12) (Nj := some 13) qa30_ qa27_ rfl rfl rfl rfl (two_of HT_.out (by kernel_rfl)) (by decide) (by decide) (fun K hK => ?_) (fun K hK => ?_)
       · skip
         refine box_step ?hg (N := 12) ?hd (cs := #[.string (⟨#[]⟩ : ByteArray), .int .i64 0, .int .i64 0, .int .i64 0, .int .i64 0]) (t := 26) ?hr ?_; (case hd => rfl); (case hg => rfl); (case hr => first | (go_simp; done) | (go_simp; rfl))
         intro gb464 hg w67 hbox hb
         have n0_ := Aside0.mk (below_step (by repeat (first | (with_reducible first | exact HB.out | apply bA_ | apply bN_ | apply b1_) | exact HB.out)) hb)
         have n1_ := Aside0.mk (hbox)
         have n2_ := Aside0.mk ((by rw [hg]; exact (below_size (by repeat (first | (with_reducible first | exact HB.out | apply bA_ | apply bN_ | apply b1_) | exact HB.out))) : w.heap.size ≤ gb464))
         have n3_ := Aside0.mk ((by rw [hg]; exact (below_size (by repeat (first | (with_reducible first | exact HB.out | apply bA_ | apply bN_ | apply b1_) | exact HB.out))) : w.heap.size ≤ gb464))
         clear HB
         have HB := n0_
         have BK464 := n1_
         have GW464 := n2_
         have GE464 := n3_
         clear n0_ n1_ n2_ n3_
         clear hb hbox hg
         refine hK.out _ _ ⟨((HB.out.cell (World.block_lt_of_cell? w _ hw462_0)).trans hw462_0), ((HB.out.cell (World.block_lt_of_cell? w _ hw462_1)).trans hw462_1), ((HB.out.cell (World.block_lt_of_cell? w _ hw462_2)).trans hw462_2), ((HB.out.cell (World.block_lt_of_cell? w _ hw462_3)).trans hw462_3), ((HB.out.cell (World.block_lt_of_cell? w _ hw462_4)).trans hw462_4), ((HB.out.cell (World.block_lt_of_cell? w _ hw463_0)).trans hw463_0), ((HB.out.cell (World.block_lt_of_cell? w _ hw463_1)).trans hw463_1), ((HB.out.cell (World.block_lt_of_cell? w _ hw463_2)).trans hw463_2), ((HB.out.cell (World.block_lt_of_cell? w _ hw463_3)).trans hw463_3), ((HB.out.cell (World.block_lt_of_cell? w _ hw463_4)).trans hw463_4)⟩ (fun hHeld => ?_)
         clear hK K
         refine norm_ (a' := ?_) ?_ ?_
         rotate_left
         · show Act.put _ (some 12) _ = _
           simp only [Act.put, List.setIfInBounds_toArray, List.set_cons_zero, List.set_cons_succ, i64_w, i32_w]
           rfl
         refine one_ (i := 9) (N := some 13) qa33_ rfl rfl (one_of HT_.out (by kernel_rfl)) (by decide) (fun K hK => ?_)
         refine box_step ?hg (N := 13) ?hd (cs := #[.string (⟨#[]⟩ : ByteArray), .int .i64 0, .int .i64 0, .int .i64 0, .int .i64 0]) (t := 26) ?hr ?_; (case hd => rfl); (case hg => rfl); (case hr => first | (go_simp; done) | (go_simp; rfl))
         intro gb465 hg w68 hbox hb
         have n0_ := Aside0.mk (blk_below (g := gb464) (o := .cells #[.string (⟨#[]⟩ : ByteArray), .int .i64 0, .int .i64 0, .int .i64 0, .int .i64 0] 26 (0, 0)) (by (with_reducible repeat (first | refine blk_drewN ?_ _ | refine blk_drew ?_ | refine blk_alloc ?_ _)); exact BK464.out) hb)
         have n1_ := Aside0.mk (below_step (by repeat (first | (with_reducible first | exact HB.out | apply bA_ | apply bN_ | apply b1_ | refine below_set ?_ GE464.out) | exact HB.out)) hb)
         have n2_ := Aside0.mk (hbox)
         have n3_ := Aside0.mk ((by rw [hg]; exact (below_size (by repeat (first | (with_reducible first | exact HB.out | apply bA_ | apply bN_ | apply b1_ | refine below_set ?_ GE464.out) | exact HB.out))) : w.heap.size ≤ gb465))
         have n4_ := Aside0.mk ((by rw [hg]; exact (below_size (by repeat (first | (with_reducible first | exact HB.out | apply bA_ | apply bN_ | apply b1_ | refine below_set ?_ GE464.out) | exact HB.out))) : w.heap.size ≤ gb465))
         have n5_ := Aside0.mk ((by rw [hg]; exact Nat.ne_of_lt (blk_lt (g := gb464) (o := .cells #[.string (⟨#[]⟩ : ByteArray), .int .i64 0, .int .i64 0, .int .i64 0, .int .i64 0] 26 (0, 0)) (by (with_reducible repeat (first | refine blk_drewN ?_ _ | refine blk_drew ?_ | refine blk_alloc ?_ _)); exact BK464.out)) : gb464 ≠ gb465))
         have n6_ := Aside0.mk ((by rw [hg]; exact Nat.ne_of_gt (blk_lt (g := gb464) (o := .cells #[.string (⟨#[]⟩ : ByteArray), .int .i64 0, .int .i64 0, .int .i64 0, .int .i64 0] 26 (0, 0)) (by (with_reducible repeat (first | refine blk_drewN ?_ _ | refine blk_drew ?_ | refine blk_alloc ?_ _)); exact BK464.out)) : gb465 ≠ gb464))
         clear BK464
         clear HB
         have BK464 := n0_
         have HB := n1_
         have BK465 := n2_
         have GW465 := n3_
         have GE465 := n4_
         have NB464_465 := n5_
         have NB465_464 := n6_
         clear n0_ n1_ n2_ n3_ n4_ n5_ n6_
         clear hb hbox hg
         refine hK.out _ _ ⟨((HB.out.cell (World.block_lt_of_cell? w _ hw462_0)).trans hw462_0), ((HB.out.cell (World.block_lt_of_cell? w _ hw462_1)).trans hw462_1), ((HB.out.cell (World.block_lt_of_cell? w _ hw462_2)).trans hw462_2), ((HB.out.cell (World.block_lt_of_cell? w _ hw462_3)).trans hw462_3), ((HB.out.cell (World.block_lt_of_cell? w _ hw462_4)).trans hw462_4), ((HB.out.cell (World.block_lt_of_cell? w _ hw463_0)).trans hw463_0), ((HB.out.cell (World.block_lt_of_cell? w _ hw463_1)).trans hw463_1), ((HB.out.cell (World.block_lt_of_cell? w _ hw463_2)).trans hw463_2), ((HB.out.cell (World.block_lt_of_cell? w _ hw463_3)).trans hw463_3), ((HB.out.cell (World.block_lt_of_cell? w _ hw463_4)).trans hw463_4)⟩ (fun hHeld => ?_)
         clear hK K
         refine norm_ (a' := ?_) ?_ ?_
         rotate_left
         · show Act.put _ (some 13) _ = _
           simp only [Act.put, List.setIfInBounds_toArray, List.set_cons_zero, List.set_cons_succ, i64_w, i32_w]
           rfl
         exact norm_ (by simp only [putAll, Act.put, List.setIfInBounds_toArray, List.set_cons_zero, List.set_cons_succ]) (hCont (gb464, gb465) _ ⟨hHeld, (by (with_reducible repeat (first | refine blk_drewN ?_ _ | refine blk_drew ?_ | refine blk_alloc ?_ _)); exact BK464.out), (by (with_reducible repeat (first | refine blk_drewN ?_ _ | refine blk_drew ?_ | refine blk_alloc ?_ _)); exact BK465.out), GW464.out, GE464.out, NB465_464.out, NB464_465.out, GW465.out, GE465.out, (by repeat (first | (with_reducible first | exact HB.out | apply bA_ | apply bN_ | apply b1_ | refine below_set ?_ GE464.out | refine below_set ?_ GE465.out) | exact HB.out))⟩)
       · skip
         refine box_step ?hg (N := 13) ?hd (cs := #[.string (⟨#[]⟩ : ByteArray), .int .i64 0, .int .i64 0, .int .i64 0, .int .i64 0]) (t := 26) ?hr ?_; (case hd => rfl); (case hg => rfl); (case hr => first | (go_simp; done) | (go_simp; rfl))
         intro gb465 hg w67 hbox hb
         have n0_ := Aside0.mk (below_step (by repeat (first | (with_reducible first | exact HB.out | apply bA_ | apply bN_ | apply b1_) | exact HB.out)) hb)
         have n1_ := Aside0.mk (hbox)
         have n2_ := Aside0.mk ((by rw [hg]; exact (below_size (by repeat (first | (with_reducible first | exact HB.out | apply bA_ | apply bN_ | apply b1_) | exact HB.out))) : w.heap.size ≤ gb465))
         have n3_ := Aside0.mk ((by rw [hg]; exact (below_size (by repeat (first | (with_reducible first | exact HB.out | apply bA_ | apply bN_ | apply b1_) | exact HB.out))) : w.heap.size ≤ gb465))
         clear HB
         have HB := n0_
         have BK465 := n1_
         have GW465 := n2_
         have GE465 := n3_
         clear n0_ n1_ n2_ n3_
         clear hb hbox hg
         refine hK.out _ _ ⟨((HB.out.cell (World.block_lt_of_cell? w _ hw462_0)).trans hw462_0), ((HB.out.cell (World.block_lt_of_cell? w _ hw462_1)).trans hw462_1), ((HB.out.cell (World.block_lt_of_cell? w _ hw462_2)).trans hw462_2), ((HB.out.cell (World.block_lt_of_cell? w _ hw462_3)).trans hw462_3), ((HB.out.cell (World.block_lt_of_cell? w _ hw462_4)).trans hw462_4), ((HB.out.cell (World.block_lt_of_cell? w _ hw463_0)).trans hw463_0), ((HB.out.cell (World.block_lt_of_cell? w _ hw463_1)).trans hw463_1), ((HB.out.cell (World.block_lt_of_cell? w _ hw463_2)).trans hw463_2), ((HB.out.cell (World.block_lt_of_cell? w _ hw463_3)).trans hw463_3), ((HB.out.cell (World.block_lt_of_cell? w _ hw463_4)).trans hw463_4)⟩ (fun hHeld => ?_)
         clear hK K
         refine norm_ (a' := ?_) ?_ ?_
         rotate_left
         · show Act.put _ (some 13) _ = _
           simp only [Act.put, List.setIfInBounds_toArray, List.set_cons_zero, List.set_cons_succ, i64_w, i32_w]
           rfl
         refine one_ (i := 8) (N := some 12) qa33_ rfl rfl (one_of HT_.out (by kernel_rfl)) (by decide) (fun K hK => ?_)
         refine box_step ?hg (N := 12) ?hd (cs := #[.string (⟨#[]⟩ : ByteArray), .int .i64 0, .int .i64 0, .int .i64 0, .int .i64 0]) (t := 26) ?hr ?_; (case hd => rfl); (case hg => rfl); (case hr => first | (go_simp; done) | (go_simp; rfl))
         intro gb464 hg w68 hbox hb
         have n0_ := Aside0.mk (blk_below (g := gb465) (o := .cells #[.string (⟨#[]⟩ : ByteArray), .int .i64 0, .int .i64 0, .int .i64 0, .int .i64 0] 26 (0, 0)) (by (with_reducible repeat (first | refine blk_drewN ?_ _ | refine blk_drew ?_ | refine blk_alloc ?_ _)); exact BK465.out) hb)
         have n1_ := Aside0.mk (below_step (by repeat (first | (with_reducible first | exact HB.out | apply bA_ | apply bN_ | apply b1_ | refine below_set ?_ GE465.out) | exact HB.out)) hb)
         have n2_ := Aside0.mk (hbox)
         have n3_ := Aside0.mk ((by rw [hg]; exact (below_size (by repeat (first | (with_reducible first | exact HB.out | apply bA_ | apply bN_ | apply b1_ | refine below_set ?_ GE465.out) | exact HB.out))) : w.heap.size ≤ gb464))
         have n4_ := Aside0.mk ((by rw [hg]; exact (below_size (by repeat (first | (with_reducible first | exact HB.out | apply bA_ | apply bN_ | apply b1_ | refine below_set ?_ GE465.out) | exact HB.out))) : w.heap.size ≤ gb464))
         have n5_ := Aside0.mk ((by rw [hg]; exact Nat.ne_of_lt (blk_lt (g := gb465) (o := .cells #[.string (⟨#[]⟩ : ByteArray), .int .i64 0, .int .i64 0, .int .i64 0, .int .i64 0] 26 (0, 0)) (by (with_reducible repeat (first | refine blk_drewN ?_ _ | refine blk_drew ?_ | refine blk_alloc ?_ _)); exact BK465.out)) : gb465 ≠ gb464))
         have n6_ := Aside0.mk ((by rw [hg]; exact Nat.ne_of_gt (blk_lt (g := gb465) (o := .cells #[.string (⟨#[]⟩ : ByteArray), .int .i64 0, .int .i64 0, .int .i64 0, .int .i64 0] 26 (0, 0)) (by (with_reducible repeat (first | refine blk_drewN ?_ _ | refine blk_drew ?_ | refine blk_alloc ?_ _)); exact BK465.out)) : gb464 ≠ gb465))
         clear BK465
         clear HB
         have BK465 := n0_
         have HB := n1_
         have BK464 := n2_
         have GW464 := n3_
         have GE464 := n4_
         have NB465_464 := n5_
         have NB464_465 := n6_
         clear n0_ n1_ n2_ n3_ n4_ n5_ n6_
         clear hb hbox hg
         refine hK.out _ _ ⟨((HB.out.cell (World.block_lt_of_cell? w _ hw462_0)).trans hw462_0), ((HB.out.cell (World.block_lt_of_cell? w _ hw462_1)).trans hw462_1), ((HB.out.cell (World.block_lt_of_cell? w _ hw462_2)).trans hw462_2), ((HB.out.cell (World.block_lt_of_cell? w _ hw462_3)).trans hw462_3), ((HB.out.cell (World.block_lt_of_cell? w _ hw462_4)).trans hw462_4), ((HB.out.cell (World.block_lt_of_cell? w _ hw463_0)).trans hw463_0), ((HB.out.cell (World.block_lt_of_cell? w _ hw463_1)).trans hw463_1), ((HB.out.cell (World.block_lt_of_cell? w _ hw463_2)).trans hw463_2), ((HB.out.cell (World.block_lt_of_cell? w _ hw463_3)).trans hw463_3), ((HB.out.cell (World.block_lt_of_cell? w _ hw463_4)).trans hw463_4)⟩ (fun hHeld => ?_)
         clear hK K
         refine norm_ (a' := ?_) ?_ ?_
         rotate_left
         · show Act.put _ (some 12) _ = _
           simp only [Act.put, List.setIfInBounds_toArray, List.set_cons_zero, List.set_cons_succ, i64_w, i32_w]
           rfl
         exact norm_ (by simp only [putAll, Act.put, List.setIfInBounds_toArray, List.set_cons_zero, List.set_cons_succ]) (hCont (gb464, gb465) _ ⟨hHeld, (by (with_reducible repeat (first | refine blk_drewN ?_ _ | refine blk_drew ?_ | refine blk_alloc ?_ _)); exact BK464.out), (by (with_reducible repeat (first | refine blk_drewN ?_ _ | refine blk_drew ?_ | refine blk_alloc ?_ _)); exact BK465.out), GW464.out, GE464.out, NB465_464.out, NB464_465.out, GW465.out, GE465.out, (by repeat (first | (with_reducible first | exact HB.out | apply bA_ | apply bN_ | apply b1_ | refine below_set ?_ GE465.out | refine below_set ?_ GE464.out) | exact HB.out))⟩)
     rintro ⟨gb464, gb465⟩ w69 ⟨hS_, h0_, h1_, h2_, h3_, h4_, h5_, h6_, h7_, h8_⟩
     have n0_ : Aside0 (w69.heap[gb464]? = some (.cells #[.string (⟨#[]⟩ : ByteArray), .int .i64 0, .int .i64 0, .int .i64 0, .int .i64 0] 26 (0, 0))) := ⟨h0_⟩
     have n1_ : Aside0 (w69.heap[gb465]? = some (.cells #[.string (⟨#[]⟩ : ByteArray), .int .i64 0, .int .i64 0, .int .i64 0, .int .i64 0] 26 (0, 0))) := ⟨h1_⟩
     have n2_ : Aside0 (w.heap.size ≤ gb464) := ⟨h2_⟩
     have n3_ : Aside0 (w.heap.size ≤ gb464) := ⟨h3_⟩
     have n4_ : Aside0 (gb465 ≠ gb464) := ⟨h4_⟩
     have n5_ : Aside0 (gb464 ≠ gb465) := ⟨h5_⟩
     have n6_ : Aside0 (w.heap.size ≤ gb465) := ⟨h6_⟩
     have n7_ : Aside0 (w.heap.size ≤ gb465) := ⟨h7_⟩
     have n8_ : Aside0 (Below w.heap.size w w69) := ⟨h8_⟩
     clear HB
     clear h0_ h1_ h2_ h3_ h4_ h5_ h6_ h7_ h8_
     have BK464 := n0_
     have BK465 := n1_
     have GW464 := n2_
     have GE464 := n3_
     have NB465_464 := n4_
     have NB464_465 := n5_
     have GW465 := n6_
     have GE465 := n7_
     have HB := n8_
     clear n0_ n1_ n2_ n3_ n4_ n5_ n6_ n7_ n8_
     have hHeld : w69.cell? (ad462.add ((t456).toNat * 5)) = some (.string ((rd_T26 l0 t456).f0)) ∧ w69.cell? ⟨(ad462.add ((t456).toNat * 5)).block, (ad462.add ((t456).toNat * 5)).off + 1, none⟩ = some (.int .i64 ((rd_T26 l0 t456).f1)) ∧ w69.cell? ⟨(ad462.add ((t456).toNat * 5)).block, (ad462.add ((t456).toNat * 5)).off + 2, none⟩ = some (.int .i64 ((rd_T26 l0 t456).f2)) ∧ w69.cell? ⟨(ad462.add ((t456).toNat * 5)).block, (ad462.add ((t456).toNat * 5)).off + 3, none⟩ = some (.int .i64 ((rd_T26 l0 t456).f3)) ∧ w69.cell? ⟨(ad462.add ((t456).toNat * 5)).block, (ad462.add ((t456).toNat * 5)).off + 4, none⟩ = some (.int .i64 ((rd_T26 l0 t456).f4)) ∧ w69.cell? (ad462.add ((t457).toNat * 5)) = some (.string ((rd_T26 l0 t457).f0)) ∧ w69.cell? ⟨(ad462.add ((t457).toNat * 5)).block, (ad462.add ((t457).toNat * 5)).off + 1, none⟩ = some (.int .i64 ((rd_T26 l0 t457).f1)) ∧ w69.cell? ⟨(ad462.add ((t457).toNat * 5)).block, (ad462.add ((t457).toNat * 5)).off + 2, none⟩ = some (.int .i64 ((rd_T26 l0 t457).f2)) ∧ w69.cell? ⟨(ad462.add ((t457).toNat * 5)).block, (ad462.add ((t457).toNat * 5)).off + 3, none⟩ = some (.int .i64 ((rd_T26 l0 t457).f3)) ∧ w69.cell? ⟨(ad462.add ((t457).toNat * 5)).block, (ad462.add ((t457).toNat * 5)).off + 4, none⟩ = some (.int .i64 ((rd_T26 l0 t457).f4)) := hS_
     refine norm_ (a' := ?_) ?_ ?_
     rotate_left
     · simp only [putAll, Act.put, List.setIfInBounds_toArray, List.set_cons_zero, List.set_cons_succ]
       rfl
     refine one_ (i := 10) (N := none) qa36_ rfl rfl (one_of HT_.out (by kernel_rfl)) (by decide) (fun K hK => ?_)
     have hs70 : w69.cell? ⟨gb464, 0, none⟩ = some (.string (⟨#[]⟩ : ByteArray)) := (blk_cell BK464.out 0).trans rfl
     have hfs70 := blk_frozen BK464.out 0
     have hns70_1 := NB465_464.out
     have hms70_1 := NB464_465.out
     have hs71 : w69.cell? ⟨gb464, 1, none⟩ = some (.int .i64 0) := (blk_cell BK464.out 1).trans rfl
     have hfs71 := blk_frozen BK464.out 1
     have hns71_1 := NB465_464.out
     have hms71_1 := NB464_465.out
     have hs72 : w69.cell? ⟨gb464, 2, none⟩ = some (.int .i64 0) := (blk_cell BK464.out 2).trans rfl
     have hfs72 := blk_frozen BK464.out 2
     have hns72_1 := NB465_464.out
     have hms72_1 := NB464_465.out
     have hs73 : w69.cell? ⟨gb464, 3, none⟩ = some (.int .i64 0) := (blk_cell BK464.out 3).trans rfl
     have hfs73 := blk_frozen BK464.out 3
     have hns73_1 := NB465_464.out
     have hms73_1 := NB464_465.out
     have hs74 : w69.cell? ⟨gb464, 4, none⟩ = some (.int .i64 0) := (blk_cell BK464.out 4).trans rfl
     have hfs74 := blk_frozen BK464.out 4
     have hns74_1 := NB465_464.out
     have hms74_1 := NB464_465.out
     refine skip_ (w1 := ?_) (by rfl) rfl ?_ ?_
     rotate_left
     · go_simp
       rfl
     refine hK.out _ _ ⟨((cell_far (p := ⟨gb464, _, none⟩) (by first | exact ne1_ hw462_0 GW464.out | exact ne2_ hw462_0 GW464.out | exact ne3_ hw462_0 GW464.out) _).trans (((cell_far (p := ⟨gb464, _, none⟩) (by first | exact ne1_ hw462_0 GW464.out | exact ne2_ hw462_0 GW464.out | exact ne3_ hw462_0 GW464.out) _).trans (((cell_far (p := ⟨gb464, _, none⟩) (by first | exact ne1_ hw462_0 GW464.out | exact ne2_ hw462_0 GW464.out | exact ne3_ hw462_0 GW464.out) _).trans (((cell_far (p := ⟨gb464, _, none⟩) (by first | exact ne1_ hw462_0 GW464.out | exact ne2_ hw462_0 GW464.out | exact ne3_ hw462_0 GW464.out) _).trans (((cell_far (p := ⟨gb464, _, none⟩) (by first | exact ne1_ hw462_0 GW464.out | exact ne2_ hw462_0 GW464.out | exact ne3_ hw462_0 GW464.out) _).trans (hHeld.1)))))))))), ((cell_far (p := ⟨gb464, _, none⟩) (by first | exact ne1_ hw462_1 GW464.out | exact ne2_ hw462_1 GW464.out | exact ne3_ hw462_1 GW464.out) _).trans (((cell_far (p := ⟨gb464, _, none⟩) (by first | exact ne1_ hw462_1 GW464.out | exact ne2_ hw462_1 GW464.out | exact ne3_ hw462_1 GW464.out) _).trans (((cell_far (p := ⟨gb464, _, none⟩) (by first | exact ne1_ hw462_1 GW464.out | exact ne2_ hw462_1 GW464.out | exact ne3_ hw462_1 GW464.out) _).trans (((cell_far (p := ⟨gb464, _, none⟩) (by first | exact ne1_ hw462_1 GW464.out | exact ne2_ hw462_1 GW464.out | exact ne3_ hw462_1 GW464.out) _).trans (((cell_far (p := ⟨gb464, _, none⟩) (by first | exact ne1_ hw462_1 GW464.out | exact ne2_ hw462_1 GW464.out | exact ne3_ hw462_1 GW464.out) _).trans (hHeld.2.1)))))))))), ((cell_far (p := ⟨gb464, _, none⟩) (by first | exact ne1_ hw462_2 GW464.out | exact ne2_ hw462_2 GW464.out | exact ne3_ hw462_2 GW464.out) _).trans (((cell_far (p := ⟨gb464, _, none⟩) (by first | exact ne1_ hw462_2 GW464.out | exact ne2_ hw462_2 GW464.out | exact ne3_ hw462_2 GW464.out) _).trans (((cell_far (p := ⟨gb464, _, none⟩) (by first | exact ne1_ hw462_2 GW464.out | exact ne2_ hw462_2 GW464.out | exact ne3_ hw462_2 GW464.out) _).trans (((cell_far (p := ⟨gb464, _, none⟩) (by first | exact ne1_ hw462_2 GW464.out | exact ne2_ hw462_2 GW464.out | exact ne3_ hw462_2 GW464.out) _).trans (((cell_far (p := ⟨gb464, _, none⟩) (by first | exact ne1_ hw462_2 GW464.out | exact ne2_ hw462_2 GW464.out | exact ne3_ hw462_2 GW464.out) _).trans (hHeld.2.2.1)))))))))), ((cell_far (p := ⟨gb464, _, none⟩) (by first | exact ne1_ hw462_3 GW464.out | exact ne2_ hw462_3 GW464.out | exact ne3_ hw462_3 GW464.out) _).trans (((cell_far (p := ⟨gb464, _, none⟩) (by first | exact ne1_ hw462_3 GW464.out | exact ne2_ hw462_3 GW464.out | exact ne3_ hw462_3 GW464.out) _).trans (((cell_far (p := ⟨gb464, _, none⟩) (by first | exact ne1_ hw462_3 GW464.out | exact ne2_ hw462_3 GW464.out | exact ne3_ hw462_3 GW464.out) _).trans (((cell_far (p := ⟨gb464, _, none⟩) (by first | exact ne1_ hw462_3 GW464.out | exact ne2_ hw462_3 GW464.out | exact ne3_ hw462_3 GW464.out) _).trans (((cell_far (p := ⟨gb464, _, none⟩) (by first | exact ne1_ hw462_3 GW464.out | exact ne2_ hw462_3 GW464.out | exact ne3_ hw462_3 GW464.out) _).trans (hHeld.2.2.2.1)))))))))), ((cell_far (p := ⟨gb464, _, none⟩) (by first | exact ne1_ hw462_4 GW464.out | exact ne2_ hw462_4 GW464.out | exact ne3_ hw462_4 GW464.out) _).trans (((cell_far (p := ⟨gb464, _, none⟩) (by first | exact ne1_ hw462_4 GW464.out | exact ne2_ hw462_4 GW464.out | exact ne3_ hw462_4 GW464.out) _).trans (((cell_far (p := ⟨gb464, _, none⟩) (by first | exact ne1_ hw462_4 GW464.out | exact ne2_ hw462_4 GW464.out | exact ne3_ hw462_4 GW464.out) _).trans (((cell_far (p := ⟨gb464, _, none⟩) (by first | exact ne1_ hw462_4 GW464.out | exact ne2_ hw462_4 GW464.out | exact ne3_ hw462_4 GW464.out) _).trans (((cell_far (p := ⟨gb464, _, none⟩) (by first | exact ne1_ hw462_4 GW464.out | exact ne2_ hw462_4 GW464.out | exact ne3_ hw462_4 GW464.out) _).trans (hHeld.2.2.2.2.1)))))))))), ((cell_far (p := ⟨gb464, _, none⟩) (by first | exact ne1_ hw463_0 GW464.out | exact ne2_ hw463_0 GW464.out | exact ne3_ hw463_0 GW464.out) _).trans (((cell_far (p := ⟨gb464, _, none⟩) (by first | exact ne1_ hw463_0 GW464.out | exact ne2_ hw463_0 GW464.out | exact ne3_ hw463_0 GW464.out) _).trans (((cell_far (p := ⟨gb464, _, none⟩) (by first | exact ne1_ hw463_0 GW464.out | exact ne2_ hw463_0 GW464.out | exact ne3_ hw463_0 GW464.out) _).trans (((cell_far (p := ⟨gb464, _, none⟩) (by first | exact ne1_ hw463_0 GW464.out | exact ne2_ hw463_0 GW464.out | exact ne3_ hw463_0 GW464.out) _).trans (((cell_far (p := ⟨gb464, _, none⟩) (by first | exact ne1_ hw463_0 GW464.out | exact ne2_ hw463_0 GW464.out | exact ne3_ hw463_0 GW464.out) _).trans (hHeld.2.2.2.2.2.1)))))))))), ((cell_far (p := ⟨gb464, _, none⟩) (by first | exact ne1_ hw463_1 GW464.out | exact ne2_ hw463_1 GW464.out | exact ne3_ hw463_1 GW464.out) _).trans (((cell_far (p := ⟨gb464, _, none⟩) (by first | exact ne1_ hw463_1 GW464.out | exact ne2_ hw463_1 GW464.out | exact ne3_ hw463_1 GW464.out) _).trans (((cell_far (p := ⟨gb464, _, none⟩) (by first | exact ne1_ hw463_1 GW464.out | exact ne2_ hw463_1 GW464.out | exact ne3_ hw463_1 GW464.out) _).trans (((cell_far (p := ⟨gb464, _, none⟩) (by first | exact ne1_ hw463_1 GW464.out | exact ne2_ hw463_1 GW464.out | exact ne3_ hw463_1 GW464.out) _).trans (((cell_far (p := ⟨gb464, _, none⟩) (by first | exact ne1_ hw463_1 GW464.out | exact ne2_ hw463_1 GW464.out | exact ne3_ hw463_1 GW464.out) _).trans (hHeld.2.2.2.2.2.2.1)))))))))), ((cell_far (p := ⟨gb464, _, none⟩) (by first | exact ne1_ hw463_2 GW464.out | exact ne2_ hw463_2 GW464.out | exact ne3_ hw463_2 GW464.out) _).trans (((cell_far (p := ⟨gb464, _, none⟩) (by first | exact ne1_ hw463_2 GW464.out | exact ne2_ hw463_2 GW464.out | exact ne3_ hw463_2 GW464.out) _).trans (((cell_far (p := ⟨gb464, _, none⟩) (by first | exact ne1_ hw463_2 GW464.out | exact ne2_ hw463_2 GW464.out | exact ne3_ hw463_2 GW464.out) _).trans (((cell_far (p := ⟨gb464, _, none⟩) (by first | exact ne1_ hw463_2 GW464.out | exact ne2_ hw463_2 GW464.out | exact ne3_ hw463_2 GW464.out) _).trans (((cell_far (p := ⟨gb464, _, none⟩) (by first | exact ne1_ hw463_2 GW464.out | exact ne2_ hw463_2 GW464.out | exact ne3_ hw463_2 GW464.out) _).trans (hHeld.2.2.2.2.2.2.2.1)))))))))), ((cell_far (p := ⟨gb464, _, none⟩) (by first | exact ne1_ hw463_3 GW464.out | exact ne2_ hw463_3 GW464.out | exact ne3_ hw463_3 GW464.out) _).trans (((cell_far (p := ⟨gb464, _, none⟩) (by first | exact ne1_ hw463_3 GW464.out | exact ne2_ hw463_3 GW464.out | exact ne3_ hw463_3 GW464.out) _).trans (((cell_far (p := ⟨gb464, _, none⟩) (by first | exact ne1_ hw463_3 GW464.out | exact ne2_ hw463_3 GW464.out | exact ne3_ hw463_3 GW464.out) _).trans (((cell_far (p := ⟨gb464, _, none⟩) (by first | exact ne1_ hw463_3 GW464.out | exact ne2_ hw463_3 GW464.out | exact ne3_ hw463_3 GW464.out) _).trans (((cell_far (p := ⟨gb464, _, none⟩) (by first | exact ne1_ hw463_3 GW464.out | exact ne2_ hw463_3 GW464.out | exact ne3_ hw463_3 GW464.out) _).trans (hHeld.2.2.2.2.2.2.2.2.1)))))))))), ((cell_far (p := ⟨gb464, _, none⟩) (by first | exact ne1_ hw463_4 GW464.out | exact ne2_ hw463_4 GW464.out | exact ne3_ hw463_4 GW464.out) _).trans (((cell_far (p := ⟨gb464, _, none⟩) (by first | exact ne1_ hw463_4 GW464.out | exact ne2_ hw463_4 GW464.out | exact ne3_ hw463_4 GW464.out) _).trans (((cell_far (p := ⟨gb464, _, none⟩) (by first | exact ne1_ hw463_4 GW464.out | exact ne2_ hw463_4 GW464.out | exact ne3_ hw463_4 GW464.out) _).trans (((cell_far (p := ⟨gb464, _, none⟩) (by first | exact ne1_ hw463_4 GW464.out | exact ne2_ hw463_4 GW464.out | exact ne3_ hw463_4 GW464.out) _).trans (((cell_far (p := ⟨gb464, _, none⟩) (by first | exact ne1_ hw463_4 GW464.out | exact ne2_ hw463_4 GW464.out | exact ne3_ hw463_4 GW464.out) _).trans (hHeld.2.2.2.2.2.2.2.2.2))))))))))⟩ (fun hHeld => ?_)
     clear hK K
     refine one_ (i := 11) (N := none) qa72_ rfl rfl (one_of HT_.out (by kernel_rfl)) (by decide) (fun K hK => ?_)
     have hs75 : w69.cell? ⟨gb465, 0, none⟩ = some (.string (⟨#[]⟩ : ByteArray)) := (blk_cell BK465.out 0).trans rfl
     have hfs75 := blk_frozen BK465.out 0
     have hns75_0 := NB464_465.out
     have hms75_0 := NB465_464.out
     have hs76 : w69.cell? ⟨gb465, 1, none⟩ = some (.int .i64 0) := (blk_cell BK465.out 1).trans rfl
     have hfs76 := blk_frozen BK465.out 1
     have hns76_0 := NB464_465.out
     have hms76_0 := NB465_464.out
     have hs77 : w69.cell? ⟨gb465, 2, none⟩ = some (.int .i64 0) := (blk_cell BK465.out 2).trans rfl
     have hfs77 := blk_frozen BK465.out 2
     have hns77_0 := NB464_465.out
     have hms77_0 := NB465_464.out
     have hs78 : w69.cell? ⟨gb465, 3, none⟩ = some (.int .i64 0) := (blk_cell BK465.out 3).trans rfl
     have hfs78 := blk_frozen BK465.out 3
     have hns78_0 := NB464_465.out
     have hms78_0 := NB465_464.out
     have hs79 : w69.cell? ⟨gb465, 4, none⟩ = some (.int .i64 0) := (blk_cell BK465.out 4).trans rfl
     have hfs79 := blk_frozen BK465.out 4
     have hns79_0 := NB464_465.out
     have hms79_0 := NB465_464.out
     refine skip_ (w1 := ?_) (by rfl) rfl ?_ ?_
     rotate_left
     · go_simp
       rfl
     refine hK.out _ _ ⟨((cell_far (p := ⟨gb465, _, none⟩) (by first | exact ne1_ hw462_0 GW465.out | exact ne2_ hw462_0 GW465.out | exact ne3_ hw462_0 GW465.out) _).trans (((cell_far (p := ⟨gb465, _, none⟩) (by first | exact ne1_ hw462_0 GW465.out | exact ne2_ hw462_0 GW465.out | exact ne3_ hw462_0 GW465.out) _).trans (((cell_far (p := ⟨gb465, _, none⟩) (by first | exact ne1_ hw462_0 GW465.out | exact ne2_ hw462_0 GW465.out | exact ne3_ hw462_0 GW465.out) _).trans (((cell_far (p := ⟨gb465, _, none⟩) (by first | exact ne1_ hw462_0 GW465.out | exact ne2_ hw462_0 GW465.out | exact ne3_ hw462_0 GW465.out) _).trans (((cell_far (p := ⟨gb465, _, none⟩) (by first | exact ne1_ hw462_0 GW465.out | exact ne2_ hw462_0 GW465.out | exact ne3_ hw462_0 GW465.out) _).trans (hHeld.1)))))))))), ((cell_far (p := ⟨gb465, _, none⟩) (by first | exact ne1_ hw462_1 GW465.out | exact ne2_ hw462_1 GW465.out | exact ne3_ hw462_1 GW465.out) _).trans (((cell_far (p := ⟨gb465, _, none⟩) (by first | exact ne1_ hw462_1 GW465.out | exact ne2_ hw462_1 GW465.out | exact ne3_ hw462_1 GW465.out) _).trans (((cell_far (p := ⟨gb465, _, none⟩) (by first | exact ne1_ hw462_1 GW465.out | exact ne2_ hw462_1 GW465.out | exact ne3_ hw462_1 GW465.out) _).trans (((cell_far (p := ⟨gb465, _, none⟩) (by first | exact ne1_ hw462_1 GW465.out | exact ne2_ hw462_1 GW465.out | exact ne3_ hw462_1 GW465.out) _).trans (((cell_far (p := ⟨gb465, _, none⟩) (by first | exact ne1_ hw462_1 GW465.out | exact ne2_ hw462_1 GW465.out | exact ne3_ hw462_1 GW465.out) _).trans (hHeld.2.1)))))))))), ((cell_far (p := ⟨gb465, _, none⟩) (by first | exact ne1_ hw462_2 GW465.out | exact ne2_ hw462_2 GW465.out | exact ne3_ hw462_2 GW465.out) _).trans (((cell_far (p := ⟨gb465, _, none⟩) (by first | exact ne1_ hw462_2 GW465.out | exact ne2_ hw462_2 GW465.out | exact ne3_ hw462_2 GW465.out) _).trans (((cell_far (p := ⟨gb465, _, none⟩) (by first | exact ne1_ hw462_2 GW465.out | exact ne2_ hw462_2 GW465.out | exact ne3_ hw462_2 GW465.out) _).trans (((cell_far (p := ⟨gb465, _, none⟩) (by first | exact ne1_ hw462_2 GW465.out | exact ne2_ hw462_2 GW465.out | exact ne3_ hw462_2 GW465.out) _).trans (((cell_far (p := ⟨gb465, _, none⟩) (by first | exact ne1_ hw462_2 GW465.out | exact ne2_ hw462_2 GW465.out | exact ne3_ hw462_2 GW465.out) _).trans (hHeld.2.2.1)))))))))), ((cell_far (p := ⟨gb465, _, none⟩) (by first | exact ne1_ hw462_3 GW465.out | exact ne2_ hw462_3 GW465.out | exact ne3_ hw462_3 GW465.out) _).trans (((cell_far (p := ⟨gb465, _, none⟩) (by first | exact ne1_ hw462_3 GW465.out | exact ne2_ hw462_3 GW465.out | exact ne3_ hw462_3 GW465.out) _).trans (((cell_far (p := ⟨gb465, _, none⟩) (by first | exact ne1_ hw462_3 GW465.out | exact ne2_ hw462_3 GW465.out | exact ne3_ hw462_3 GW465.out) _).trans (((cell_far (p := ⟨gb465, _, none⟩) (by first | exact ne1_ hw462_3 GW465.out | exact ne2_ hw462_3 GW465.out | exact ne3_ hw462_3 GW465.out) _).trans (((cell_far (p := ⟨gb465, _, none⟩) (by first | exact ne1_ hw462_3 GW465.out | exact ne2_ hw462_3 GW465.out | exact ne3_ hw462_3 GW465.out) _).trans (hHeld.2.2.2.1)))))))))), ((cell_far (p := ⟨gb465, _, none⟩) (by first | exact ne1_ hw462_4 GW465.out | exact ne2_ hw462_4 GW465.out | exact ne3_ hw462_4 GW465.out) _).trans (((cell_far (p := ⟨gb465, _, none⟩) (by first | exact ne1_ hw462_4 GW465.out | exact ne2_ hw462_4 GW465.out | exact ne3_ hw462_4 GW465.out) _).trans (((cell_far (p := ⟨gb465, _, none⟩) (by first | exact ne1_ hw462_4 GW465.out | exact ne2_ hw462_4 GW465.out | exact ne3_ hw462_4 GW465.out) _).trans (((cell_far (p := ⟨gb465, _, none⟩) (by first | exact ne1_ hw462_4 GW465.out | exact ne2_ hw462_4 GW465.out | exact ne3_ hw462_4 GW465.out) _).trans (((cell_far (p := ⟨gb465, _, none⟩) (by first | exact ne1_ hw462_4 GW465.out | exact ne2_ hw462_4 GW465.out | exact ne3_ hw462_4 GW465.out) _).trans (hHeld.2.2.2.2.1)))))))))), ((cell_far (p := ⟨gb465, _, none⟩) (by first | exact ne1_ hw463_0 GW465.out | exact ne2_ hw463_0 GW465.out | exact ne3_ hw463_0 GW465.out) _).trans (((cell_far (p := ⟨gb465, _, none⟩) (by first | exact ne1_ hw463_0 GW465.out | exact ne2_ hw463_0 GW465.out | exact ne3_ hw463_0 GW465.out) _).trans (((cell_far (p := ⟨gb465, _, none⟩) (by first | exact ne1_ hw463_0 GW465.out | exact ne2_ hw463_0 GW465.out | exact ne3_ hw463_0 GW465.out) _).trans (((cell_far (p := ⟨gb465, _, none⟩) (by first | exact ne1_ hw463_0 GW465.out | exact ne2_ hw463_0 GW465.out | exact ne3_ hw463_0 GW465.out) _).trans (((cell_far (p := ⟨gb465, _, none⟩) (by first | exact ne1_ hw463_0 GW465.out | exact ne2_ hw463_0 GW465.out | exact ne3_ hw463_0 GW465.out) _).trans (hHeld.2.2.2.2.2.1)))))))))), ((cell_far (p := ⟨gb465, _, none⟩) (by first | exact ne1_ hw463_1 GW465.out | exact ne2_ hw463_1 GW465.out | exact ne3_ hw463_1 GW465.out) _).trans (((cell_far (p := ⟨gb465, _, none⟩) (by first | exact ne1_ hw463_1 GW465.out | exact ne2_ hw463_1 GW465.out | exact ne3_ hw463_1 GW465.out) _).trans (((cell_far (p := ⟨gb465, _, none⟩) (by first | exact ne1_ hw463_1 GW465.out | exact ne2_ hw463_1 GW465.out | exact ne3_ hw463_1 GW465.out) _).trans (((cell_far (p := ⟨gb465, _, none⟩) (by first | exact ne1_ hw463_1 GW465.out | exact ne2_ hw463_1 GW465.out | exact ne3_ hw463_1 GW465.out) _).trans (((cell_far (p := ⟨gb465, _, none⟩) (by first | exact ne1_ hw463_1 GW465.out | exact ne2_ hw463_1 GW465.out | exact ne3_ hw463_1 GW465.out) _).trans (hHeld.2.2.2.2.2.2.1)))))))))), ((cell_far (p := ⟨gb465, _, none⟩) (by first | exact ne1_ hw463_2 GW465.out | exact ne2_ hw463_2 GW465.out | exact ne3_ hw463_2 GW465.out) _).trans (((cell_far (p := ⟨gb465, _, none⟩) (by first | exact ne1_ hw463_2 GW465.out | exact ne2_ hw463_2 GW465.out | exact ne3_ hw463_2 GW465.out) _).trans (((cell_far (p := ⟨gb465, _, none⟩) (by first | exact ne1_ hw463_2 GW465.out | exact ne2_ hw463_2 GW465.out | exact ne3_ hw463_2 GW465.out) _).trans (((cell_far (p := ⟨gb465, _, none⟩) (by first | exact ne1_ hw463_2 GW465.out | exact ne2_ hw463_2 GW465.out | exact ne3_ hw463_2 GW465.out) _).trans (((cell_far (p := ⟨gb465, _, none⟩) (by first | exact ne1_ hw463_2 GW465.out | exact ne2_ hw463_2 GW465.out | exact ne3_ hw463_2 GW465.out) _).trans (hHeld.2.2.2.2.2.2.2.1)))))))))), ((cell_far (p := ⟨gb465, _, none⟩) (by first | exact ne1_ hw463_3 GW465.out | exact ne2_ hw463_3 GW465.out | exact ne3_ hw463_3 GW465.out) _).trans (((cell_far (p := ⟨gb465, _, none⟩) (by first | exact ne1_ hw463_3 GW465.out | exact ne2_ hw463_3 GW465.out | exact ne3_ hw463_3 GW465.out) _).trans (((cell_far (p := ⟨gb465, _, none⟩) (by first | exact ne1_ hw463_3 GW465.out | exact ne2_ hw463_3 GW465.out | exact ne3_ hw463_3 GW465.out) _).trans (((cell_far (p := ⟨gb465, _, none⟩) (by first | exact ne1_ hw463_3 GW465.out | exact ne2_ hw463_3 GW465.out | exact ne3_ hw463_3 GW465.out) _).trans (((cell_far (p := ⟨gb465, _, none⟩) (by first | exact ne1_ hw463_3 GW465.out | exact ne2_ hw463_3 GW465.out | exact ne3_ hw463_3 GW465.out) _).trans (hHeld.2.2.2.2.2.2.2.2.1)))))))))), ((cell_far (p := ⟨gb465, _, none⟩) (by first | exact ne1_ hw463_4 GW465.out | exact ne2_ hw463_4 GW465.out | exact ne3_ hw463_4 GW465.out) _).trans (((cell_far (p := ⟨gb465, _, none⟩) (by first | exact ne1_ hw463_4 GW465.out | exact ne2_ hw463_4 GW465.out | exact ne3_ hw463_4 GW465.out) _).trans (((cell_far (p := ⟨gb465, _, none⟩) (by first | exact ne1_ hw463_4 GW465.out | exact ne2_ hw463_4 GW465.out | exact ne3_ hw463_4 GW465.out) _).trans (((cell_far (p := ⟨gb465, _, none⟩) (by first | exact ne1_ hw463_4 GW465.out | exact ne2_ hw463_4 GW465.out | exact ne3_ hw463_4 GW465.out) _).trans (((cell_far (p := ⟨gb465, _, none⟩) (by first | exact ne1_ hw463_4 GW465.out | exact ne2_ hw463_4 GW465.out | exact ne3_ hw463_4 GW465.out) _).trans (hHeld.2.2.2.2.2.2.2.2.2))))))))))⟩ (fun hHeld => ?_)
     clear hK K
     refine done_ (done_of HT_.out (by kernel_rfl)) ?_
     have hnb80 := NB464_465.out
     have hnc80 := NB465_464.out
     obtain ⟨hcz81_0, hcz81_1, hcz81_2, hcz81_3, hcz81_4, hfz81_0, hfz81_1, hfz81_2, hfz81_3, hfz81_4⟩ := blk5_ BK464.out
     obtain ⟨hcz82_0, hcz82_1, hcz82_2, hcz82_3, hcz82_4, hfz82_0, hfz82_1, hfz82_2, hfz82_3, hfz82_4⟩ := blk5_ BK465.out
     try go_wp2
     have n0_ : Aside0 (((((((((((((w69.setCell ⟨gb464, 0, none⟩ (.string ((rd_T26 l0 t456).f0))).setCell ⟨gb464, 1, none⟩ (.int .i64 ((rd_T26 l0 t456).f1))).setCell ⟨gb464, 2, none⟩ (.int .i64 ((rd_T26 l0 t456).f2))).setCell ⟨gb464, 3, none⟩ (.int .i64 ((rd_T26 l0 t456).f3))).setCell ⟨gb464, 4, none⟩ (.int .i64 ((rd_T26 l0 t456).f4))).setCell ⟨gb465, 0, none⟩ (.string ((rd_T26 l0 t457).f0))).setCell ⟨gb465, 1, none⟩ (.int .i64 ((rd_T26 l0 t457).f1))).setCell ⟨gb465, 2, none⟩ (.int .i64 ((rd_T26 l0 t457).f2))).setCell ⟨gb465, 3, none⟩ (.int .i64 ((rd_T26 l0 t457).f3))).setCell ⟨gb465, 4, none⟩ (.int .i64 ((rd_T26 l0 t457).f4))).setCell ⟨gb464, 3, none⟩ (.int .i64 (wrap64 (((rd_T26 l0 t456).f3) - a3)))).setCell ⟨gb465, 3, none⟩ (.int .i64 (wrap64 (((rd_T26 l0 t457).f3) + a3)))).heap[gb464]? = some (.cells #[.string ((rd_T26 l0 t456).f0), .int .i64 ((rd_T26 l0 t456).f1), .int .i64 ((rd_T26 l0 t456).f2), .int .i64 (wrap64 (((rd_T26 l0 t456).f3) - a3)), .int .i64 ((rd_T26 l0 t456).f4)] 26 (0, 0))) := ⟨by (with_reducible repeat (first | refine blk_drewN ?_ _ | refine blk_drew ?_ | refine blk_alloc ?_ _)); refine blk_far ?_ NB464_465.out _; (with_reducible repeat (first | refine blk_drewN ?_ _ | refine blk_drew ?_ | refine blk_alloc ?_ _)); refine blk_put (cs := #[.string ((rd_T26 l0 t456).f0), .int .i64 ((rd_T26 l0 t456).f1), .int .i64 ((rd_T26 l0 t456).f2), .int .i64 ((rd_T26 l0 t456).f3), .int .i64 ((rd_T26 l0 t456).f4)]) ?_ 3 _ rfl; (with_reducible repeat (first | refine blk_drewN ?_ _ | refine blk_drew ?_ | refine blk_alloc ?_ _)); refine blk_far ?_ NB464_465.out _; (with_reducible repeat (first | refine blk_drewN ?_ _ | refine blk_drew ?_ | refine blk_alloc ?_ _)); refine blk_far ?_ NB464_465.out _; (with_reducible repeat (first | refine blk_drewN ?_ _ | refine blk_drew ?_ | refine blk_alloc ?_ _)); refine blk_far ?_ NB464_465.out _; (with_reducible repeat (first | refine blk_drewN ?_ _ | refine blk_drew ?_ | refine blk_alloc ?_ _)); refine blk_far ?_ NB464_465.out _; (with_reducible repeat (first | refine blk_drewN ?_ _ | refine blk_drew ?_ | refine blk_alloc ?_ _)); refine blk_far ?_ NB464_465.out _; (with_reducible repeat (first | refine blk_drewN ?_ _ | refine blk_drew ?_ | refine blk_alloc ?_ _)); refine blk_put (cs := #[.string ((rd_T26 l0 t456).f0), .int .i64 ((rd_T26 l0 t456).f1), .int .i64 ((rd_T26 l0 t456).f2), .int .i64 ((rd_T26 l0 t456).f3), .int .i64 0]) ?_ 4 _ rfl; (with_reducible repeat (first | refine blk_drewN ?_ _ | refine blk_drew ?_ | refine blk_alloc ?_ _)); refine blk_put (cs := #[.string ((rd_T26 l0 t456).f0), .int .i64 ((rd_T26 l0 t456).f1), .int .i64 ((rd_T26 l0 t456).f2), .int .i64 0, .int .i64 0]) ?_ 3 _ rfl; (with_reducible repeat (first | refine blk_drewN ?_ _ | refine blk_drew ?_ | refine blk_alloc ?_ _)); refine blk_put (cs := #[.string ((rd_T26 l0 t456).f0), .int .i64 ((rd_T26 l0 t456).f1), .int .i64 0, .int .i64 0, .int .i64 0]) ?_ 2 _ rfl; (with_reducible repeat (first | refine blk_drewN ?_ _ | refine blk_drew ?_ | refine blk_alloc ?_ _)); refine blk_put (cs := #[.string ((rd_T26 l0 t456).f0), .int .i64 0, .int .i64 0, .int .i64 0, .int .i64 0]) ?_ 1 _ rfl; (with_reducible repeat (first | refine blk_drewN ?_ _ | refine blk_drew ?_ | refine blk_alloc ?_ _)); refine blk_put (cs := #[.string (⟨#[]⟩ : ByteArray), .int .i64 0, .int .i64 0, .int .i64 0, .int .i64 0]) ?_ 0 _ rfl; (with_reducible repeat (first | refine blk_drewN ?_ _ | refine blk_drew ?_ | refine blk_alloc ?_ _)); exact BK464.out⟩
     have n1_ : Aside0 (((((((((((((w69.setCell ⟨gb464, 0, none⟩ (.string ((rd_T26 l0 t456).f0))).setCell ⟨gb464, 1, none⟩ (.int .i64 ((rd_T26 l0 t456).f1))).setCell ⟨gb464, 2, none⟩ (.int .i64 ((rd_T26 l0 t456).f2))).setCell ⟨gb464, 3, none⟩ (.int .i64 ((rd_T26 l0 t456).f3))).setCell ⟨gb464, 4, none⟩ (.int .i64 ((rd_T26 l0 t456).f4))).setCell ⟨gb465, 0, none⟩ (.string ((rd_T26 l0 t457).f0))).setCell ⟨gb465, 1, none⟩ (.int .i64 ((rd_T26 l0 t457).f1))).setCell ⟨gb465, 2, none⟩ (.int .i64 ((rd_T26 l0 t457).f2))).setCell ⟨gb465, 3, none⟩ (.int .i64 ((rd_T26 l0 t457).f3))).setCell ⟨gb465, 4, none⟩ (.int .i64 ((rd_T26 l0 t457).f4))).setCell ⟨gb464, 3, none⟩ (.int .i64 (wrap64 (((rd_T26 l0 t456).f3) - a3)))).setCell ⟨gb465, 3, none⟩ (.int .i64 (wrap64 (((rd_T26 l0 t457).f3) + a3)))).heap[gb465]? = some (.cells #[.string ((rd_T26 l0 t457).f0), .int .i64 ((rd_T26 l0 t457).f1), .int .i64 ((rd_T26 l0 t457).f2), .int .i64 (wrap64 (((rd_T26 l0 t457).f3) + a3)), .int .i64 ((rd_T26 l0 t457).f4)] 26 (0, 0))) := ⟨by (with_reducible repeat (first | refine blk_drewN ?_ _ | refine blk_drew ?_ | refine blk_alloc ?_ _)); refine blk_put (cs := #[.string ((rd_T26 l0 t457).f0), .int .i64 ((rd_T26 l0 t457).f1), .int .i64 ((rd_T26 l0 t457).f2), .int .i64 ((rd_T26 l0 t457).f3), .int .i64 ((rd_T26 l0 t457).f4)]) ?_ 3 _ rfl; (with_reducible repeat (first | refine blk_drewN ?_ _ | refine blk_drew ?_ | refine blk_alloc ?_ _)); refine blk_far ?_ NB465_464.out _; (with_reducible repeat (first | refine blk_drewN ?_ _ | refine blk_drew ?_ | refine blk_alloc ?_ _)); refine blk_put (cs := #[.string ((rd_T26 l0 t457).f0), .int .i64 ((rd_T26 l0 t457).f1), .int .i64 ((rd_T26 l0 t457).f2), .int .i64 ((rd_T26 l0 t457).f3), .int .i64 0]) ?_ 4 _ rfl; (with_reducible repeat (first | refine blk_drewN ?_ _ | refine blk_drew ?_ | refine blk_alloc ?_ _)); refine blk_put (cs := #[.string ((rd_T26 l0 t457).f0), .int .i64 ((rd_T26 l0 t457).f1), .int .i64 ((rd_T26 l0 t457).f2), .int .i64 0, .int .i64 0]) ?_ 3 _ rfl; (with_reducible repeat (first | refine blk_drewN ?_ _ | refine blk_drew ?_ | refine blk_alloc ?_ _)); refine blk_put (cs := #[.string ((rd_T26 l0 t457).f0), .int .i64 ((rd_T26 l0 t457).f1), .int .i64 0, .int .i64 0, .int .i64 0]) ?_ 2 _ rfl; (with_reducible repeat (first | refine blk_drewN ?_ _ | refine blk_drew ?_ | refine blk_alloc ?_ _)); refine blk_put (cs := #[.string ((rd_T26 l0 t457).f0), .int .i64 0, .int .i64 0, .int .i64 0, .int .i64 0]) ?_ 1 _ rfl; (with_reducible repeat (first | refine blk_drewN ?_ _ | refine blk_drew ?_ | refine blk_alloc ?_ _)); refine blk_put (cs := #[.string (⟨#[]⟩ : ByteArray), .int .i64 0, .int .i64 0, .int .i64 0, .int .i64 0]) ?_ 0 _ rfl; (with_reducible repeat (first | refine blk_drewN ?_ _ | refine blk_drew ?_ | refine blk_alloc ?_ _)); refine blk_far ?_ NB465_464.out _; (with_reducible repeat (first | refine blk_drewN ?_ _ | refine blk_drew ?_ | refine blk_alloc ?_ _)); refine blk_far ?_ NB465_464.out _; (with_reducible repeat (first | refine blk_drewN ?_ _ | refine blk_drew ?_ | refine blk_alloc ?_ _)); refine blk_far ?_ NB465_464.out _; (with_reducible repeat (first | refine blk_drewN ?_ _ | refine blk_drew ?_ | refine blk_alloc ?_ _)); refine blk_far ?_ NB465_464.out _; (with_reducible repeat (first | refine blk_drewN ?_ _ | refine blk_drew ?_ | refine blk_alloc ?_ _)); refine blk_far ?_ NB465_464.out _; (with_reducible repeat (first | refine blk_drewN ?_ _ | refine blk_drew ?_ | refine blk_alloc ?_ _)); exact BK465.out⟩
     have n2_ : Aside0 (Below w.heap.size w ((((((((((((w69.setCell ⟨gb464, 0, none⟩ (.string ((rd_T26 l0 t456).f0))).setCell ⟨gb464, 1, none⟩ (.int .i64 ((rd_T26 l0 t456).f1))).setCell ⟨gb464, 2, none⟩ (.int .i64 ((rd_T26 l0 t456).f2))).setCell ⟨gb464, 3, none⟩ (.int .i64 ((rd_T26 l0 t456).f3))).setCell ⟨gb464, 4, none⟩ (.int .i64 ((rd_T26 l0 t456).f4))).setCell ⟨gb465, 0, none⟩ (.string ((rd_T26 l0 t457).f0))).setCell ⟨gb465, 1, none⟩ (.int .i64 ((rd_T26 l0 t457).f1))).setCell ⟨gb465, 2, none⟩ (.int .i64 ((rd_T26 l0 t457).f2))).setCell ⟨gb465, 3, none⟩ (.int .i64 ((rd_T26 l0 t457).f3))).setCell ⟨gb465, 4, none⟩ (.int .i64 ((rd_T26 l0 t457).f4))).setCell ⟨gb464, 3, none⟩ (.int .i64 (wrap64 (((rd_T26 l0 t456).f3) - a3)))).setCell ⟨gb465, 3, none⟩ (.int .i64 (wrap64 (((rd_T26 l0 t457).f3) + a3))))) := ⟨by repeat (first | (with_reducible first | exact HB.out | apply bA_ | apply bN_ | apply b1_ | refine below_set ?_ GE464.out | refine below_set ?_ GE465.out) | exact HB.out)⟩
     (try clear BK464)
     (try clear BK465)
     (try clear HB)
     generalize ((((((((((((w69.setCell ⟨gb464, 0, none⟩ (.string ((rd_T26 l0 t456).f0))).setCell ⟨gb464, 1, none⟩ (.int .i64 ((rd_T26 l0 t456).f1))).setCell ⟨gb464, 2, none⟩ (.int .i64 ((rd_T26 l0 t456).f2))).setCell ⟨gb464, 3, none⟩ (.int .i64 ((rd_T26 l0 t456).f3))).setCell ⟨gb464, 4, none⟩ (.int .i64 ((rd_T26 l0 t456).f4))).setCell ⟨gb465, 0, none⟩ (.string ((rd_T26 l0 t457).f0))).setCell ⟨gb465, 1, none⟩ (.int .i64 ((rd_T26 l0 t457).f1))).setCell ⟨gb465, 2, none⟩ (.int .i64 ((rd_T26 l0 t457).f2))).setCell ⟨gb465, 3, none⟩ (.int .i64 ((rd_T26 l0 t457).f3))).setCell ⟨gb465, 4, none⟩ (.int .i64 ((rd_T26 l0 t457).f4))).setCell ⟨gb464, 3, none⟩ (.int .i64 (wrap64 (((rd_T26 l0 t456).f3) - a3)))).setCell ⟨gb465, 3, none⟩ (.int .i64 (wrap64 (((rd_T26 l0 t457).f3) + a3)))) = w83 at n0_ n1_ n2_ ⊢
     have BK464 := n0_
     have BK465 := n1_
     have HB := n2_
     clear n0_ n1_ n2_
     have n0_ := Aside0.mk (blk_drew BK464.out)
     have n1_ := Aside0.mk (blk_drew BK465.out)
     have n2_ := Aside0.mk (below_drew1 HB.out)
     clear BK464
     clear BK465
     clear HB
     have BK464 := n0_
     have BK465 := n1_
     have HB := n2_
     clear n0_ n1_ n2_
     refine start_ (n := 8) (S := fun w' => w'.cell? ⟨gb464, 0, none⟩ = some (.string ((rd_T26 l0 t456).f0)) ∧ w'.cell? ⟨gb464, 1, none⟩ = some (.int .i64 ((rd_T26 l0 t456).f1)) ∧ w'.cell? ⟨gb464, 2, none⟩ = some (.int .i64 ((rd_T26 l0 t456).f2)) ∧ w'.cell? ⟨gb464, 3, none⟩ = some (.int .i64 (wrap64 (((rd_T26 l0 t456).f3) - a3))) ∧ w'.cell? ⟨gb464, 4, none⟩ = some (.int .i64 ((rd_T26 l0 t456).f4)) ∧ w'.cell? ⟨gb465, 0, none⟩ = some (.string ((rd_T26 l0 t457).f0)) ∧ w'.cell? ⟨gb465, 1, none⟩ = some (.int .i64 ((rd_T26 l0 t457).f1)) ∧ w'.cell? ⟨gb465, 2, none⟩ = some (.int .i64 ((rd_T26 l0 t457).f2)) ∧ w'.cell? ⟨gb465, 3, none⟩ = some (.int .i64 (wrap64 (((rd_T26 l0 t457).f3) + a3))) ∧ w'.cell? ⟨gb465, 4, none⟩ = some (.int .i64 ((rd_T26 l0 t457).f4))) (ds := []) #[false, false, false, false, false, false, false, false] (by kernel_rfl) rfl rfl ⟨(blk_cell BK464.out 0).trans rfl, (blk_cell BK464.out 1).trans rfl, (blk_cell BK464.out 2).trans rfl, (blk_cell BK464.out 3).trans rfl, (blk_cell BK464.out 4).trans rfl, (blk_cell BK465.out 0).trans rfl, (blk_cell BK465.out 1).trans rfl, (blk_cell BK465.out 2).trans rfl, (blk_cell BK465.out 3).trans rfl, (blk_cell BK465.out 4).trans rfl⟩ (fun hHeld => ?_); refine with_tabW spec_ShareCrew.tab7 spec_ShareCrew.bits7 (fun HT_ HW_ => ?_)
     generalize w83.drew = w84 at BK464 BK465 HB hHeld ⊢
     refine pure_ (i := 0) (N := some 73) (v := ?_) (a' := ?_) #[true, false, false, false, false, false, false, false] rfl rfl (any_of HT_.out (by kernel_rfl)) (fun _ _ _ h => h) (Or.inl ⟨by rfl, ?_⟩) ?_ ?_
     rotate_left
     · intro w'
       go_simp
       with_reducible rfl
     rotate_left
     · simp only [Act.put, List.setIfInBounds_toArray, List.set_cons_zero, List.set_cons_succ, i64_w, i32_w]
       rfl
     refine pure_ (i := 1) (N := some 74) (v := ?_) (a' := ?_) #[true, true, false, false, false, false, false, false] rfl rfl (any_of HT_.out (by kernel_rfl)) (fun _ _ _ h => h) (Or.inl ⟨by rfl, ?_⟩) ?_ ?_
     rotate_left
     · intro w'
       go_simp
       with_reducible rfl
     rotate_left
     · simp only [Act.put, List.setIfInBounds_toArray, List.set_cons_zero, List.set_cons_succ, i64_w, i32_w]
       rfl
     refine pure_ (i := 4) (N := some 77) (v := ?_) (a' := ?_) #[true, true, false, false, true, false, false, false] rfl rfl (any_of HT_.out (by kernel_rfl)) (fun _ _ _ h => h) (Or.inl ⟨by rfl, ?_⟩) ?_ ?_
     rotate_left
     · intro w'
       go_simp
       with_reducible rfl
     rotate_left
     · simp only [Act.put, List.setIfInBounds_toArray, List.set_cons_zero, List.set_cons_succ, i64_w, i32_w]
       rfl
     refine take_ (i := 2) (N := some 75) (v := ?_) (a' := ?_) #[true, true, true, false, true, false, false, false] rfl rfl (take_ofW HT_.out HW_.out (by kernel_rfl)) (fun _ _ _ h => h) (Or.inl ⟨by rfl, ?_⟩) hHeld ?_ ?_
     rotate_left
     · rintro w' ⟨s0, s1, s2, s3, s4, s5, s6, s7, s8, s9⟩
       go_simp
       with_reducible rfl
     rotate_left
     · simp only [Act.put, List.setIfInBounds_toArray, List.set_cons_zero, List.set_cons_succ, i64_w, i32_w]
       rfl
     refine take_ (i := 5) (N := some 78) (v := ?_) (a' := ?_) #[true, true, true, false, true, true, false, false] rfl rfl (take_ofW HT_.out HW_.out (by kernel_rfl)) (fun _ _ _ h => h) (Or.inl ⟨by rfl, ?_⟩) hHeld ?_ ?_
     rotate_left
     · rintro w' ⟨s0, s1, s2, s3, s4, s5, s6, s7, s8, s9⟩
       go_simp
       with_reducible rfl
     rotate_left
     · simp only [Act.put, List.setIfInBounds_toArray, List.set_cons_zero, List.set_cons_succ, i64_w, i32_w]
       rfl
     refine one_ (i := 3) (N := some 76) #[true, true, true, true, true, true, false, false] rfl rfl (one_of HT_.out (by kernel_rfl)) (by decide) (fun K hK => ?_)
     refine goes_ Try.func70 (by kernel_rfl) rfl #[.slice (some ad462) l0.length c0, .int .i64 t456, .agg #[.string ((rd_T26 l0 t456).f0), .int .i64 ((rd_T26 l0 t456).f1), .int .i64 ((rd_T26 l0 t456).f2), .int .i64 (wrap64 (((rd_T26 l0 t456).f3) - a3)), .int .i64 ((rd_T26 l0 t456).f4)]] (by rfl) rfl rfl (by (try simp only [List.map_toArray, List.map_cons, List.map_nil]); first | done | rfl) ?_
     with_reducible refine (spec_apWith.calls _ _ l0 t456 ((rd_T26 l0 t456).f0) ((rd_T26 l0 t456).f1) ((rd_T26 l0 t456).f2) (wrap64 (((rd_T26 l0 t456).f3) - a3)) ((rd_T26 l0 t456).f4) t466 _ ?side1 ?side2 A38.out).mono ?_
     (case side1 => repeat (first | exact (Kd.C_below HR0.out HB.out) | (with_reducible refine Kd.C_alloc ?_ _) | (with_reducible refine Kd.C_drewN ?_ _) | (with_reducible refine Kd.C_drew ?_)))
     (case side2 => exact HC0.out)
     rintro e w85 ⟨v467, rfl, ho0, hb⟩
     refine ⟨_, rfl, ?_⟩
     have n0_ := Aside0.mk (Kd.R_lower (Kd.R_newB (Kd.R_newB ho0 (g := gb464) (o := .cells #[.string ((rd_T26 l0 t456).f0), .int .i64 ((rd_T26 l0 t456).f1), .int .i64 ((rd_T26 l0 t456).f2), .int .i64 (wrap64 (((rd_T26 l0 t456).f3) - a3)), .int .i64 ((rd_T26 l0 t456).f4)] 26 (0, 0)) (by (with_reducible repeat (first | refine blk_drewN ?_ _ | refine blk_drew ?_ | refine blk_alloc ?_ _)); exact BK464.out)) (g := gb465) (o := .cells #[.string ((rd_T26 l0 t457).f0), .int .i64 ((rd_T26 l0 t457).f1), .int .i64 ((rd_T26 l0 t457).f2), .int .i64 (wrap64 (((rd_T26 l0 t457).f3) + a3)), .int .i64 ((rd_T26 l0 t457).f4)] 26 (0, 0)) (by (with_reducible repeat (first | refine blk_drewN ?_ _ | refine blk_drew ?_ | refine blk_alloc ?_ _)); exact BK465.out)) (below_size (by repeat (first | (with_reducible first | exact HB.out | apply bA_ | apply bN_ | apply b1_ | refine below_set ?_ GE464.out | refine below_set ?_ GE465.out) | exact HB.out))))
     have n1_ := Aside0.mk (blk_below (g := gb464) (o := .cells #[.string ((rd_T26 l0 t456).f0), .int .i64 ((rd_T26 l0 t456).f1), .int .i64 ((rd_T26 l0 t456).f2), .int .i64 (wrap64 (((rd_T26 l0 t456).f3) - a3)), .int .i64 ((rd_T26 l0 t456).f4)] 26 (0, 0)) (by (with_reducible repeat (first | refine blk_drewN ?_ _ | refine blk_drew ?_ | refine blk_alloc ?_ _)); exact BK464.out) hb)
     have n2_ := Aside0.mk (blk_below (g := gb465) (o := .cells #[.string ((rd_T26 l0 t457).f0), .int .i64 ((rd_T26 l0 t457).f1), .int .i64 ((rd_T26 l0 t457).f2), .int .i64 (wrap64 (((rd_T26 l0 t457).f3) + a3)), .int .i64 ((rd_T26 l0 t457).f4)] 26 (0, 0)) (by (with_reducible repeat (first | refine blk_drewN ?_ _ | refine blk_drew ?_ | refine blk_alloc ?_ _)); exact BK465.out) hb)
     have n3_ := Aside0.mk (below_step (by repeat (first | (with_reducible first | exact HB.out | apply bA_ | apply bN_ | apply b1_ | refine below_set ?_ GE464.out | refine below_set ?_ GE465.out) | exact HB.out)) hb)
     clear BK464
     clear BK465
     clear HB
     have HO468 := n0_
     have BK464 := n1_
     have BK465 := n2_
     have HB := n3_
     clear n0_ n1_ n2_ n3_
     (try clear hb)
     (try clear hb2)
     (try clear hk)
     (try clear hi)
     (try clear ho0)
     obtain ⟨Ao86, co86, eo86⟩ := Kd.R_slice HO468.out
     (first | subst eo86 | (injection eo86 with f1_ f2_ f3_; have f4_ := f1_.symm; have f5_ := f3_.symm; clear f1_ f2_ f3_; subst f4_; subst f5_))
     refine hK.out _ _ ⟨(blk_cell BK464.out 0).trans rfl, (blk_cell BK464.out 1).trans rfl, (blk_cell BK464.out 2).trans rfl, (blk_cell BK464.out 3).trans rfl, (blk_cell BK464.out 4).trans rfl, (blk_cell BK465.out 0).trans rfl, (blk_cell BK465.out 1).trans rfl, (blk_cell BK465.out 2).trans rfl, (blk_cell BK465.out 3).trans rfl, (blk_cell BK465.out 4).trans rfl⟩ (fun hHeld => ?_)
     clear hK K
     refine norm_ (a' := ?_) ?_ ?_
     rotate_left
     · show Act.put _ (some 76) _ = _
       simp only [Act.put, List.setIfInBounds_toArray, List.set_cons_zero, List.set_cons_succ, i64_w, i32_w]
       rfl
     refine one_ (i := 6) (N := some 79) #[true, true, true, true, true, true, true, false] rfl rfl (one_of HT_.out (by kernel_rfl)) (by decide) (fun K hK => ?_)
     refine goes_ Try.func70 (by kernel_rfl) rfl #[.slice Ao86 t466.length co86, .int .i64 t457, .agg #[.string ((rd_T26 l0 t457).f0), .int .i64 ((rd_T26 l0 t457).f1), .int .i64 ((rd_T26 l0 t457).f2), .int .i64 (wrap64 (((rd_T26 l0 t457).f3) + a3)), .int .i64 ((rd_T26 l0 t457).f4)]] (by rfl) rfl rfl (by (try simp only [List.map_toArray, List.map_cons, List.map_nil]); first | done | rfl) ?_
     with_reducible refine (spec_apWith.calls _ _ t466 t457 ((rd_T26 l0 t457).f0) ((rd_T26 l0 t457).f1) ((rd_T26 l0 t457).f2) (wrap64 (((rd_T26 l0 t457).f3) + a3)) ((rd_T26 l0 t457).f4) t469 _ ?side1 ?side2 A39.out).mono ?_
     (case side1 => repeat (first | exact (Kd.R_reads' HO468.out).2.2 | (with_reducible refine Kd.C_alloc ?_ _) | (with_reducible refine Kd.C_drewN ?_ _) | (with_reducible refine Kd.C_drew ?_)))
     (case side2 => exact (Kd.R_reads' HO468.out).2.1)
     rintro e w87 ⟨v470, rfl, ho0, hb⟩
     refine ⟨_, rfl, ?_⟩
     have n0_ := Aside0.mk (Kd.R_elder' (by (with_reducible repeat (first | apply Kd.R_alloc | apply Kd.R_drewN | apply Kd.R_drew)); exact HO468.out) (Kd.R_base ho0) hb)
     have n1_ := Aside0.mk (Kd.R_lower (Kd.R_newB (Kd.R_newB (Kd.R_new' ho0 (Kd.R_lt (by (with_reducible repeat (first | apply Kd.R_alloc | apply Kd.R_drewN | apply Kd.R_drew)); exact HO468.out))) (g := gb464) (o := .cells #[.string ((rd_T26 l0 t456).f0), .int .i64 ((rd_T26 l0 t456).f1), .int .i64 ((rd_T26 l0 t456).f2), .int .i64 (wrap64 (((rd_T26 l0 t456).f3) - a3)), .int .i64 ((rd_T26 l0 t456).f4)] 26 (0, 0)) (by (with_reducible repeat (first | refine blk_drewN ?_ _ | refine blk_drew ?_ | refine blk_alloc ?_ _)); exact BK464.out)) (g := gb465) (o := .cells #[.string ((rd_T26 l0 t457).f0), .int .i64 ((rd_T26 l0 t457).f1), .int .i64 ((rd_T26 l0 t457).f2), .int .i64 (wrap64 (((rd_T26 l0 t457).f3) + a3)), .int .i64 ((rd_T26 l0 t457).f4)] 26 (0, 0)) (by (with_reducible repeat (first | refine blk_drewN ?_ _ | refine blk_drew ?_ | refine blk_alloc ?_ _)); exact BK465.out)) (below_size (by repeat (first | (with_reducible first | exact HB.out | apply bA_ | apply bN_ | apply b1_ | refine below_set ?_ GE464.out | refine below_set ?_ GE465.out) | exact HB.out))))
     have n2_ := Aside0.mk (blk_below (g := gb464) (o := .cells #[.string ((rd_T26 l0 t456).f0), .int .i64 ((rd_T26 l0 t456).f1), .int .i64 ((rd_T26 l0 t456).f2), .int .i64 (wrap64 (((rd_T26 l0 t456).f3) - a3)), .int .i64 ((rd_T26 l0 t456).f4)] 26 (0, 0)) (by (with_reducible repeat (first | refine blk_drewN ?_ _ | refine blk_drew ?_ | refine blk_alloc ?_ _)); exact BK464.out) hb)
     have n3_ := Aside0.mk (blk_below (g := gb465) (o := .cells #[.string ((rd_T26 l0 t457).f0), .int .i64 ((rd_T26 l0 t457).f1), .int .i64 ((rd_T26 l0 t457).f2), .int .i64 (wrap64 (((rd_T26 l0 t457).f3) + a3)), .int .i64 ((rd_T26 l0 t457).f4)] 26 (0, 0)) (by (with_reducible repeat (first | refine blk_drewN ?_ _ | refine blk_drew ?_ | refine blk_alloc ?_ _)); exact BK465.out) hb)
     have n4_ := Aside0.mk (below_step (by repeat (first | (with_reducible first | exact HB.out | apply bA_ | apply bN_ | apply b1_ | refine below_set ?_ GE464.out | refine below_set ?_ GE465.out) | exact HB.out)) hb)
     clear HO468
     clear BK464
     clear BK465
     clear HB
     have HO468 := n0_
     have HO471 := n1_
     have BK464 := n2_
     have BK465 := n3_
     have HB := n4_
     clear n0_ n1_ n2_ n3_ n4_
     (try clear hb)
     (try clear hb2)
     (try clear hk)
     (try clear hi)
     (try clear ho0)
     refine hK.out _ _ ⟨(blk_cell BK464.out 0).trans rfl, (blk_cell BK464.out 1).trans rfl, (blk_cell BK464.out 2).trans rfl, (blk_cell BK464.out 3).trans rfl, (blk_cell BK464.out 4).trans rfl, (blk_cell BK465.out 0).trans rfl, (blk_cell BK465.out 1).trans rfl, (blk_cell BK465.out 2).trans rfl, (blk_cell BK465.out 3).trans rfl, (blk_cell BK465.out 4).trans rfl⟩ (fun hHeld => ?_)
     clear hK K
     refine norm_ (a' := ?_) ?_ ?_
     rotate_left
     · show Act.put _ (some 79) _ = _
       simp only [Act.put, List.setIfInBounds_toArray, List.set_cons_zero, List.set_cons_succ, i64_w, i32_w]
       rfl
     refine pure_ (i := 7) (N := some 14) (v := ?_) (a' := ?_) #[true, true, true, true, true, true, true, true] rfl rfl (any_of HT_.out (by kernel_rfl)) (fun _ _ _ h => h) (Or.inl ⟨by rfl, ?_⟩) ?_ ?_
     rotate_left
     · intro w'
       go_simp
       with_reducible rfl
     rotate_left
     · simp only [Act.put, List.setIfInBounds_toArray, List.set_cons_zero, List.set_cons_succ, i64_w, i32_w]
       rfl
     refine done_ (done_of HT_.out (by kernel_rfl)) ?_
     obtain ⟨Ao88, co88, eo88⟩ := Kd.R_slice HO471.out
     subst eo88
     try go_wp2_with (first | ((with_reducible refine gate_callee (f := 62) rfl ?_); refine goesL_ (some 81) rfl rfl Try.func62 (by kernel_rfl) rfl #[.slice Ao88 t469.length co88] rfl (by (try simp only [List.map_toArray, List.map_cons, List.map_nil]); first | done | rfl) ?_; (with_reducible refine (spec_apFleet.calls kj6 _ _ t469 false _ ?side1 ?side2 A40.out).mono ?_); (case side1 => repeat (first | exact (Kd.R_reads' HO471.out).2.2 | (with_reducible refine Kd.C_alloc ?_ _) | (with_reducible refine Kd.C_drewN ?_ _) | (with_reducible refine Kd.C_drew ?_))); (case side2 => exact (Kd.R_reads' HO471.out).2.1); rintro e w89 ⟨rfl, hb⟩; refine ⟨_, rfl, ?_⟩; have n0_ := Aside0.mk (Kd.R_below (by (with_reducible repeat (first | apply Kd.R_alloc | apply Kd.R_drewN | apply Kd.R_drew)); exact HO468.out) hb); have n1_ := Aside0.mk (Kd.R_below (by (with_reducible repeat (first | apply Kd.R_alloc | apply Kd.R_drewN | apply Kd.R_drew)); exact HO471.out) hb); have n2_ := Aside0.mk (blk_below (g := gb464) (o := .cells #[.string ((rd_T26 l0 t456).f0), .int .i64 ((rd_T26 l0 t456).f1), .int .i64 ((rd_T26 l0 t456).f2), .int .i64 (wrap64 (((rd_T26 l0 t456).f3) - a3)), .int .i64 ((rd_T26 l0 t456).f4)] 26 (0, 0)) (by (with_reducible repeat (first | refine blk_drewN ?_ _ | refine blk_drew ?_ | refine blk_alloc ?_ _)); exact BK464.out) hb); have n3_ := Aside0.mk (blk_below (g := gb465) (o := .cells #[.string ((rd_T26 l0 t457).f0), .int .i64 ((rd_T26 l0 t457).f1), .int .i64 ((rd_T26 l0 t457).f2), .int .i64 (wrap64 (((rd_T26 l0 t457).f3) + a3)), .int .i64 ((rd_T26 l0 t457).f4)] 26 (0, 0)) (by (with_reducible repeat (first | refine blk_drewN ?_ _ | refine blk_drew ?_ | refine blk_alloc ?_ _)); exact BK465.out) hb); have n4_ := Aside0.mk (below_step (by repeat (first | (with_reducible first | exact HB.out | apply bA_ | apply bN_ | apply b1_ | refine below_set ?_ GE464.out | refine below_set ?_ GE465.out) | exact HB.out)) hb); clear HO468; clear HO471; clear BK464; clear BK465; clear HB; have HO468 := n0_; have HO471 := n1_; have BK464 := n2_; have BK465 := n3_; have HB := n4_; clear n0_ n1_ n2_ n3_ n4_; (try clear hb); (try clear hb2); (try clear hk); (try clear hi)))
     go_ret2
     exact ⟨_, by first | rfl | (simp [errW_none, errW_some] <;> rfl) | (simp [*, errW_none, errW_some] <;> rfl), by first | exact Kd.R_nil _ _ _ _ _ | exact Kd.N_nil _ _ _ _ _ | exact Kd.V_nil _ _ _ _ _ | exact Kd.Q_nil _ _ _ _ _ | exact Kd.S_nil _ _ _ _ _, by repeat (first | (with_reducible first | exact HB.out | apply bA_ | apply bN_ | apply b1_ | refine below_set ?_ GE464.out | refine below_set ?_ GE465.out) | exact HB.out)⟩
    subst c41
    have H1 : (some (t469, true)) = some (r1, r2) := by rw [if_pos rfl] at H; exact H
    clear H
    have H := H1
    clear H1
    simp only [Option.some.injEq, Prod.mk.injEq] at H
    obtain ⟨rfl, rfl⟩ := H
    try go_wp2
    have n0_ := Aside0.mk (below_drew1 HB.out)
    clear HB
    have HB := n0_
    clear n0_
    have p462 : 0 ≤ (t456 : Int) := of_decide_eq_true (by first|with_reducible assumption|assumption)
    have q462 : t456 < (l0.length : Int) := of_decide_eq_true (by first|with_reducible assumption|assumption)
    obtain ⟨ad462, e462, hx462_0, hx462_1, hx462_2, hx462_3, hx462_4⟩ := at_T26 HR0.out t456 p462 q462
    have hw462_4 := hx462_4
    have hw462_3 := hx462_3
    have hw462_2 := hx462_2
    have hw462_1 := hx462_1
    have hw462_0 := hx462_0
    cases e462
    replace hx462_0 := cl_ HB.out hx462_0
    replace hx462_1 := cl_ HB.out hx462_1
    replace hx462_2 := cl_ HB.out hx462_2
    replace hx462_3 := cl_ HB.out hx462_3
    replace hx462_4 := cl_ HB.out hx462_4
    replace p462 := eq_true p462
    replace q462 := eq_true q462
    have p463 : 0 ≤ (t457 : Int) := of_decide_eq_true (by first|with_reducible assumption|assumption)
    have q463 : t457 < (l0.length : Int) := of_decide_eq_true (by first|with_reducible assumption|assumption)
    obtain ⟨ad463, e463, hx463_0, hx463_1, hx463_2, hx463_3, hx463_4⟩ := at_T26 HR0.out t457 p463 q463
    have hw463_4 := hx463_4
    have hw463_3 := hx463_3
    have hw463_2 := hx463_2
    have hw463_1 := hx463_1
    have hw463_0 := hx463_0
    obtain rfl : ad462 = ad463 := (by injection e463)
    replace hx463_0 := cl_ HB.out hx463_0
    replace hx463_1 := cl_ HB.out hx463_1
    replace hx463_2 := cl_ HB.out hx463_2
    replace hx463_3 := cl_ HB.out hx463_3
    replace hx463_4 := cl_ HB.out hx463_4
    replace p463 := eq_true p463
    replace q463 := eq_true q463
    refine start_ (n := 12) (S := fun w' => w'.cell? (ad462.add ((t456).toNat * 5)) = some (.string ((rd_T26 l0 t456).f0)) ∧ w'.cell? ⟨(ad462.add ((t456).toNat * 5)).block, (ad462.add ((t456).toNat * 5)).off + 1, none⟩ = some (.int .i64 ((rd_T26 l0 t456).f1)) ∧ w'.cell? ⟨(ad462.add ((t456).toNat * 5)).block, (ad462.add ((t456).toNat * 5)).off + 2, none⟩ = some (.int .i64 ((rd_T26 l0 t456).f2)) ∧ w'.cell? ⟨(ad462.add ((t456).toNat * 5)).block, (ad462.add ((t456).toNat * 5)).off + 3, none⟩ = some (.int .i64 ((rd_T26 l0 t456).f3)) ∧ w'.cell? ⟨(ad462.add ((t456).toNat * 5)).block, (ad462.add ((t456).toNat * 5)).off + 4, none⟩ = some (.int .i64 ((rd_T26 l0 t456).f4)) ∧ w'.cell? (ad462.add ((t457).toNat * 5)) = some (.string ((rd_T26 l0 t457).f0)) ∧ w'.cell? ⟨(ad462.add ((t457).toNat * 5)).block, (ad462.add ((t457).toNat * 5)).off + 1, none⟩ = some (.int .i64 ((rd_T26 l0 t457).f1)) ∧ w'.cell? ⟨(ad462.add ((t457).toNat * 5)).block, (ad462.add ((t457).toNat * 5)).off + 2, none⟩ = some (.int .i64 ((rd_T26 l0 t457).f2)) ∧ w'.cell? ⟨(ad462.add ((t457).toNat * 5)).block, (ad462.add ((t457).toNat * 5)).off + 3, none⟩ = some (.int .i64 ((rd_T26 l0 t457).f3)) ∧ w'.cell? ⟨(ad462.add ((t457).toNat * 5)).block, (ad462.add ((t457).toNat * 5)).off + 4, none⟩ = some (.int .i64 ((rd_T26 l0 t457).f4))) (ds := []) qa2_ (by kernel_rfl) rfl rfl ⟨((HB.out.cell (World.block_lt_of_cell? w _ hw462_0)).trans hw462_0), ((HB.out.cell (World.block_lt_of_cell? w _ hw462_1)).trans hw462_1), ((HB.out.cell (World.block_lt_of_cell? w _ hw462_2)).trans hw462_2), ((HB.out.cell (World.block_lt_of_cell? w _ hw462_3)).trans hw462_3), ((HB.out.cell (World.block_lt_of_cell? w _ hw462_4)).trans hw462_4), ((HB.out.cell (World.block_lt_of_cell? w _ hw463_0)).trans hw463_0), ((HB.out.cell (World.block_lt_of_cell? w _ hw463_1)).trans hw463_1), ((HB.out.cell (World.block_lt_of_cell? w _ hw463_2)).trans hw463_2), ((HB.out.cell (World.block_lt_of_cell? w _ hw463_3)).trans hw463_3), ((HB.out.cell (World.block_lt_of_cell? w _ hw463_4)).trans hw463_4)⟩ (fun hHeld => ?_); refine with_tabW spec_ShareCrew.tab4 spec_ShareCrew.bits4 (fun HT_ HW_ => ?_)
    generalize wc.drew = w42 at HB hx462_0 hx462_1 hx462_2 hx462_3 hx462_4 hx463_0 hx463_1 hx463_2 hx463_3 hx463_4 hHeld ⊢
    refine pure_ (i := 0) (N := some 55) (v := ?_) (a' := ?_) qa5_ rfl rfl (any_of HT_.out (by kernel_rfl)) (fun _ _ _ h => h) (Or.inl ⟨by rfl, ?_⟩) ?_ ?_
    rotate_left
    · intro w'
      go_simp
      with_reducible rfl
    rotate_left
    · simp only [Act.put, List.setIfInBounds_toArray, List.set_cons_zero, List.set_cons_succ, i64_w, i32_w]
      rfl
    refine pure_ (i := 1) (N := some 56) (v := ?_) (a' := ?_) qa8_ rfl rfl (any_of HT_.out (by kernel_rfl)) (fun _ _ _ h => h) (Or.inl ⟨by rfl, ?_⟩) ?_ ?_
    rotate_left
    · intro w'
      go_simp
      with_reducible rfl
    rotate_left
    · simp only [Act.put, List.setIfInBounds_toArray, List.set_cons_zero, List.set_cons_succ, i64_w, i32_w]
      rfl
    refine pure_ (i := 2) (N := some 57) (v := ?_) (a' := ?_) qa11_ rfl rfl (any_of HT_.out (by kernel_rfl)) (fun _ _ _ h => h) (Or.inl ⟨by rfl, ?_⟩) ?_ ?_
    rotate_left
    · intro w'
      go_simp
      with_reducible rfl
    rotate_left
    · simp only [Act.put, List.setIfInBounds_toArray, List.set_cons_zero, List.set_cons_succ, i64_w, i32_w]
      rfl
    refine pure_ (i := 4) (N := some 59) (v := ?_) (a' := ?_) qa12_ rfl rfl (any_of HT_.out (by kernel_rfl)) (fun _ _ _ h => h) (Or.inl ⟨by rfl, ?_⟩) ?_ ?_
    rotate_left
    · intro w'
      go_simp
      with_reducible rfl
    rotate_left
    · simp only [Act.put, List.setIfInBounds_toArray, List.set_cons_zero, List.set_cons_succ, i64_w, i32_w]
      rfl
    refine pure_ (i := 5) (N := some 60) (v := ?_) (a' := ?_) qa13_ rfl rfl (any_of HT_.out (by kernel_rfl)) (fun _ _ _ h => h) (Or.inl ⟨by rfl, ?_⟩) ?_ ?_
    rotate_left
    · intro w'
      go_simp
      with_reducible rfl
    rotate_left
    · simp only [Act.put, List.setIfInBounds_toArray, List.set_cons_zero, List.set_cons_succ, i64_w, i32_w]
      rfl
    refine pure_ (i := 6) (N := some 61) (v := ?_) (a' := ?_) qa14_ rfl rfl (any_of HT_.out (by kernel_rfl)) (fun _ _ _ h => h) (Or.inl ⟨by rfl, ?_⟩) ?_ ?_
    rotate_left
    · intro w'
      go_simp
      with_reducible rfl
    rotate_left
    · simp only [Act.put, List.setIfInBounds_toArray, List.set_cons_zero, List.set_cons_succ, i64_w, i32_w]
      rfl
    refine take_ (i := 3) (N := some 58) (v := ?_) (a' := ?_) qa23_ rfl rfl (take_ofW HT_.out HW_.out (by kernel_rfl)) (fun _ _ _ h => h) (Or.inl ⟨by rfl, ?_⟩) hHeld ?_ ?_
    rotate_left
    · rintro w' ⟨s0, s1, s2, s3, s4, s5, s6, s7, s8, s9⟩
      go_simp
      with_reducible rfl
    rotate_left
    · simp only [Act.put, List.setIfInBounds_toArray, List.set_cons_zero, List.set_cons_succ, i64_w, i32_w]
      rfl
    refine take_ (i := 7) (N := some 62) (v := ?_) (a' := ?_) qa26_ rfl rfl (take_ofW HT_.out HW_.out (by kernel_rfl)) (fun _ _ _ h => h) (Or.inl ⟨by rfl, ?_⟩) hHeld ?_ ?_
    rotate_left
    · rintro w' ⟨s0, s1, s2, s3, s4, s5, s6, s7, s8, s9⟩
      go_simp
      with_reducible rfl
    rotate_left
    · simp only [Act.put, List.setIfInBounds_toArray, List.set_cons_zero, List.set_cons_succ, i64_w, i32_w]
      rfl
    refine join_ (σ := Nat × Nat) 2 qa33_ (fun s_ => [(12, .pointer (some ⟨s_.1, 0, none⟩)), (13, .pointer (some ⟨s_.2, 0, none⟩))]) (fun s_ w' => (w'.cell? (ad462.add ((t456).toNat * 5)) = some (.string ((rd_T26 l0 t456).f0)) ∧ w'.cell? ⟨(ad462.add ((t456).toNat * 5)).block, (ad462.add ((t456).toNat * 5)).off + 1, none⟩ = some (.int .i64 ((rd_T26 l0 t456).f1)) ∧ w'.cell? ⟨(ad462.add ((t456).toNat * 5)).block, (ad462.add ((t456).toNat * 5)).off + 2, none⟩ = some (.int .i64 ((rd_T26 l0 t456).f2)) ∧ w'.cell? ⟨(ad462.add ((t456).toNat * 5)).block, (ad462.add ((t456).toNat * 5)).off + 3, none⟩ = some (.int .i64 ((rd_T26 l0 t456).f3)) ∧ w'.cell? ⟨(ad462.add ((t456).toNat * 5)).block, (ad462.add ((t456).toNat * 5)).off + 4, none⟩ = some (.int .i64 ((rd_T26 l0 t456).f4)) ∧ w'.cell? (ad462.add ((t457).toNat * 5)) = some (.string ((rd_T26 l0 t457).f0)) ∧ w'.cell? ⟨(ad462.add ((t457).toNat * 5)).block, (ad462.add ((t457).toNat * 5)).off + 1, none⟩ = some (.int .i64 ((rd_T26 l0 t457).f1)) ∧ w'.cell? ⟨(ad462.add ((t457).toNat * 5)).block, (ad462.add ((t457).toNat * 5)).off + 2, none⟩ = some (.int .i64 ((rd_T26 l0 t457).f2)) ∧ w'.cell? ⟨(ad462.add ((t457).toNat * 5)).block, (ad462.add ((t457).toNat * 5)).off + 3, none⟩ = some (.int .i64 ((rd_T26 l0 t457).f3)) ∧ w'.cell? ⟨(ad462.add ((t457).toNat * 5)).block, (ad462.add ((t457).toNat * 5)).off + 4, none⟩ = some (.int .i64 ((rd_T26 l0 t457).f4))) ∧ (w'.heap[s_.1]? = some (.cells #[.string (⟨#[]⟩ : ByteArray), .int .i64 0, .int .i64 0, .int .i64 0, .int .i64 0] 26 (0, 0))) ∧ (w'.heap[s_.2]? = some (.cells #[.string (⟨#[]⟩ : ByteArray), .int .i64 0, .int .i64 0, .int .i64 0, .int .i64 0] 26 (0, 0))) ∧ (w.heap.size ≤ s_.1) ∧ (w.heap.size ≤ s_.1) ∧ (s_.2 ≠ s_.1) ∧ (s_.1 ≠ s_.2) ∧ (w.heap.size ≤ s_.2) ∧ (w.heap.size ≤ s_.2) ∧ (Below w.heap.size w w')) ?_ ?_
    rotate_left
    · intro hCont
      refine two_ (i := 8) (j := 9) (Ni := some 12) (Nj := some 13) qa30_ qa27_ rfl rfl rfl rfl (two_of HT_.out (by kernel_rfl)) (by decide) (by decide) (fun K hK => ?_) (fun K hK => ?_)
      · skip
        refine box_step ?hg (N := 12) ?hd (cs := #[.string (⟨#[]⟩ : ByteArray), .int .i64 0, .int .i64 0, .int .i64 0, .int .i64 0]) (t := 26) ?hr ?_; (case hd => rfl); (case hg => rfl); (case hr => first | (go_simp; done) | (go_simp; rfl))
        intro gb464 hg w43 hbox hb
        have n0_ := Aside0.mk (below_step (by repeat (first | (with_reducible first | exact HB.out | apply bA_ | apply bN_ | apply b1_) | exact HB.out)) hb)
        have n1_ := Aside0.mk (hbox)
        have n2_ := Aside0.mk ((by rw [hg]; exact (below_size (by repeat (first | (with_reducible first | exact HB.out | apply bA_ | apply bN_ | apply b1_) | exact HB.out))) : w.heap.size ≤ gb464))
        have n3_ := Aside0.mk ((by rw [hg]; exact (below_size (by repeat (first | (with_reducible first | exact HB.out | apply bA_ | apply bN_ | apply b1_) | exact HB.out))) : w.heap.size ≤ gb464))
        clear HB
        have HB := n0_
        have BK464 := n1_
        have GW464 := n2_
        have GE464 := n3_
        clear n0_ n1_ n2_ n3_
        clear hb hbox hg
        refine hK.out _ _ ⟨((HB.out.cell (World.block_lt_of_cell? w _ hw462_0)).trans hw462_0), ((HB.out.cell (World.block_lt_of_cell? w _ hw462_1)).trans hw462_1), ((HB.out.cell (World.block_lt_of_cell? w _ hw462_2)).trans hw462_2), ((HB.out.cell (World.block_lt_of_cell? w _ hw462_3)).trans hw462_3), ((HB.out.cell (World.block_lt_of_cell? w _ hw462_4)).trans hw462_4), ((HB.out.cell (World.block_lt_of_cell? w _ hw463_0)).trans hw463_0), ((HB.out.cell (World.block_lt_of_cell? w _ hw463_1)).trans hw463_1), ((HB.out.cell (World.block_lt_of_cell? w _ hw463_2)).trans hw463_2), ((HB.out.cell (World.block_lt_of_cell? w _ hw463_3)).trans hw463_3), ((HB.out.cell (World.block_lt_of_cell? w _ hw463_4)).trans hw463_4)⟩ (fun hHeld => ?_)
        clear hK K
        refine norm_ (a' := ?_) ?_ ?_
        rotate_left
        · show Act.put _ (some 12) _ = _
          simp only [Act.put, List.setIfInBounds_toArray, List.set_cons_zero, List.set_cons_succ, i64_w, i32_w]
          rfl
        refine one_ (i := 9) (N := some 13) qa33_ rfl rfl (one_of HT_.out (by kernel_rfl)) (by decide) (fun K hK => ?_)
        refine box_step ?hg (N := 13) ?hd (cs := #[.string (⟨#[]⟩ : ByteArray), .int .i64 0, .int .i64 0, .int .i64 0, .int .i64 0]) (t := 26) ?hr ?_; (case hd => rfl); (case hg => rfl); (case hr => first | (go_simp; done) | (go_simp; rfl))
        intro gb465 hg w44 hbox hb
        have n0_ := Aside0.mk (blk_below (g := gb464) (o := .cells #[.string (⟨#[]⟩ : ByteArray), .int .i64 0, .int .i64 0, .int .i64 0, .int .i64 0] 26 (0, 0)) (by (with_reducible repeat (first | refine blk_drewN ?_ _ | refine blk_drew ?_ | refine blk_alloc ?_ _)); exact BK464.out) hb)
        have n1_ := Aside0.mk (below_step (by repeat (first | (with_reducible first | exact HB.out | apply bA_ | apply bN_ | apply b1_ | refine below_set ?_ GE464.out) | exact HB.out)) hb)
        have n2_ := Aside0.mk (hbox)
        have n3_ := Aside0.mk ((by rw [hg]; exact (below_size (by repeat (first | (with_reducible first | exact HB.out | apply bA_ | apply bN_ | apply b1_ | refine below_set ?_ GE464.out) | exact HB.out))) : w.heap.size ≤ gb465))
        have n4_ := Aside0.mk ((by rw [hg]; exact (below_size (by repeat (first | (with_reducible first | exact HB.out | apply bA_ | apply bN_ | apply b1_ | refine below_set ?_ GE464.out) | exact HB.out))) : w.heap.size ≤ gb465))
        have n5_ := Aside0.mk ((by rw [hg]; exact Nat.ne_of_lt (blk_lt (g := gb464) (o := .cells #[.string (⟨#[]⟩ : ByteArray), .int .i64 0, .int .i64 0, .int .i64 0, .int .i64 0] 26 (0, 0)) (by (with_reducible repeat (first | refine blk_drewN ?_ _ | refine blk_drew ?_ | refine blk_alloc ?_ _)); exact BK464.out)) : gb464 ≠ gb465))
        have n6_ := Aside0.mk ((by rw [hg]; exact Nat.ne_of_gt (blk_lt (g := gb464) (o := .cells #[.string (⟨#[]⟩ : ByteArray), .int .i64 0, .int .i64 0, .int .i64 0, .int .i64 0] 26 (0, 0)) (by (with_reducible repeat (first | refine blk_drewN ?_ _ | refine blk_drew ?_ | refine blk_alloc ?_ _)); exact BK464.out)) : gb465 ≠ gb464))
        clear BK464
        clear HB
        have BK464 := n0_
        have HB := n1_
        have BK465 := n2_
        have GW465 := n3_
        have GE465 := n4_
        have NB464_465 := n5_
        have NB465_464 := n6_
        clear n0_ n1_ n2_ n3_ n4_ n5_ n6_
        clear hb hbox hg
        refine hK.out _ _ ⟨((HB.out.cell (World.block_lt_of_cell? w _ hw462_0)).trans hw462_0), ((HB.out.cell (World.block_lt_of_cell? w _ hw462_1)).trans hw462_1), ((HB.out.cell (World.block_lt_of_cell? w _ hw462_2)).trans hw462_2), ((HB.out.cell (World.block_lt_of_cell? w _ hw462_3)).trans hw462_3), ((HB.out.cell (World.block_lt_of_cell? w _ hw462_4)).trans hw462_4), ((HB.out.cell (World.block_lt_of_cell? w _ hw463_0)).trans hw463_0), ((HB.out.cell (World.block_lt_of_cell? w _ hw463_1)).trans hw463_1), ((HB.out.cell (World.block_lt_of_cell? w _ hw463_2)).trans hw463_2), ((HB.out.cell (World.block_lt_of_cell? w _ hw463_3)).trans hw463_3), ((HB.out.cell (World.block_lt_of_cell? w _ hw463_4)).trans hw463_4)⟩ (fun hHeld => ?_)
        clear hK K
        refine norm_ (a' := ?_) ?_ ?_
        rotate_left
        · show Act.put _ (some 13) _ = _
          simp only [Act.put, List.setIfInBounds_toArray, List.set_cons_zero, List.set_cons_succ, i64_w, i32_w]
          rfl
        exact norm_ (by simp only [putAll, Act.put, List.setIfInBounds_toArray, List.set_cons_zero, List.set_cons_succ]) (hCont (gb464, gb465) _ ⟨hHeld, (by (with_reducible repeat (first | refine blk_drewN ?_ _ | refine blk_drew ?_ | refine blk_alloc ?_ _)); exact BK464.out), (by (with_reducible repeat (first | refine blk_drewN ?_ _ | refine blk_drew ?_ | refine blk_alloc ?_ _)); exact BK465.out), GW464.out, GE464.out, NB465_464.out, NB464_465.out, GW465.out, GE465.out, (by repeat (first | (with_reducible first | exact HB.out | apply bA_ | apply bN_ | apply b1_ | refine below_set ?_ GE464.out | refine below_set ?_ GE465.out) | exact HB.out))⟩)
      · skip
        refine box_step ?hg (N := 13) ?hd (cs := #[.string (⟨#[]⟩ : ByteArray), .int .i64 0, .int .i64 0, .int .i64 0, .int .i64 0]) (t := 26) ?hr ?_; (case hd => rfl); (case hg => rfl); (case hr => first | (go_simp; done) | (go_simp; rfl))
        intro gb465 hg w43 hbox hb
        have n0_ := Aside0.mk (below_step (by repeat (first | (with_reducible first | exact HB.out | apply bA_ | apply bN_ | apply b1_) | exact HB.out)) hb)
        have n1_ := Aside0.mk (hbox)
        have n2_ := Aside0.mk ((by rw [hg]; exact (below_size (by repeat (first | (with_reducible first | exact HB.out | apply bA_ | apply bN_ | apply b1_) | exact HB.out))) : w.heap.size ≤ gb465))
        have n3_ := Aside0.mk ((by rw [hg]; exact (below_size (by repeat (first | (with_reducible first | exact HB.out | apply bA_ | apply bN_ | apply b1_) | exact HB.out))) : w.heap.size ≤ gb465))
        clear HB
        have HB := n0_
        have BK465 := n1_
        have GW465 := n2_
        have GE465 := n3_
        clear n0_ n1_ n2_ n3_
        clear hb hbox hg
        refine hK.out _ _ ⟨((HB.out.cell (World.block_lt_of_cell? w _ hw462_0)).trans hw462_0), ((HB.out.cell (World.block_lt_of_cell? w _ hw462_1)).trans hw462_1), ((HB.out.cell (World.block_lt_of_cell? w _ hw462_2)).trans hw462_2), ((HB.out.cell (World.block_lt_of_cell? w _ hw462_3)).trans hw462_3), ((HB.out.cell (World.block_lt_of_cell? w _ hw462_4)).trans hw462_4), ((HB.out.cell (World.block_lt_of_cell? w _ hw463_0)).trans hw463_0), ((HB.out.cell (World.block_lt_of_cell? w _ hw463_1)).trans hw463_1), ((HB.out.cell (World.block_lt_of_cell? w _ hw463_2)).trans hw463_2), ((HB.out.cell (World.block_lt_of_cell? w _ hw463_3)).trans hw463_3), ((HB.out.cell (World.block_lt_of_cell? w _ hw463_4)).trans hw463_4)⟩ (fun hHeld => ?_)
        clear hK K
        refine norm_ (a' := ?_) ?_ ?_
        rotate_left
        · show Act.put _ (some 13) _ = _
          simp only [Act.put, List.setIfInBounds_toArray, List.set_cons_zero, List.set_cons_succ, i64_w, i32_w]
          rfl
        refine one_ (i := 8) (N := some 12) qa33_ rfl rfl (one_of HT_.out (by kernel_rfl)) (by decide) (fun K hK => ?_)
        refine box_step ?hg (N := 12) ?hd (cs := #[.string (⟨#[]⟩ : ByteArray), .int .i64 0, .int .i64 0, .int .i64 0, .int .i64 0]) (t := 26) ?hr ?_; (case hd => rfl); (case hg => rfl); (case hr => first | (go_simp; done) | (go_simp; rfl))
        intro gb464 hg w44 hbox hb
        have n0_ := Aside0.mk (blk_below (g := gb465) (o := .cells #[.string (⟨#[]⟩ : ByteArray), .int .i64 0, .int .i64 0, .int .i64 0, .int .i64 0] 26 (0, 0)) (by (with_reducible repeat (first | refine blk_drewN ?_ _ | refine blk_drew ?_ | refine blk_alloc ?_ _)); exact BK465.out) hb)
        have n1_ := Aside0.mk (below_step (by repeat (first | (with_reducible first | exact HB.out | apply bA_ | apply bN_ | apply b1_ | refine below_set ?_ GE465.out) | exact HB.out)) hb)
        have n2_ := Aside0.mk (hbox)
        have n3_ := Aside0.mk ((by rw [hg]; exact (below_size (by repeat (first | (with_reducible first | exact HB.out | apply bA_ | apply bN_ | apply b1_ | refine below_set ?_ GE465.out) | exact HB.out))) : w.heap.size ≤ gb464))
        have n4_ := Aside0.mk ((by rw [hg]; exact (below_size (by repeat (first | (with_reducible first | exact HB.out | apply bA_ | apply bN_ | apply b1_ | refine below_set ?_ GE465.out) | exact HB.out))) : w.heap.size ≤ gb464))
        have n5_ := Aside0.mk ((by rw [hg]; exact Nat.ne_of_lt (blk_lt (g := gb465) (o := .cells #[.string (⟨#[]⟩ : ByteArray), .int .i64 0, .int .i64 0, .int .i64 0, .int .i64 0] 26 (0, 0)) (by (with_reducible repeat (first | refine blk_drewN ?_ _ | refine blk_drew ?_ | refine blk_alloc ?_ _)); exact BK465.out)) : gb465 ≠ gb464))
        have n6_ := Aside0.mk ((by rw [hg]; exact Nat.ne_of_gt (blk_lt (g := gb465) (o := .cells #[.string (⟨#[]⟩ : ByteArray), .int .i64 0, .int .i64 0, .int .i64 0, .int .i64 0] 26 (0, 0)) (by (with_reducible repeat (first | refine blk_drewN ?_ _ | refine blk_drew ?_ | refine blk_alloc ?_ _)); exact BK465.out)) : gb464 ≠ gb465))
        clear BK465
        clear HB
        have BK465 := n0_
        have HB := n1_
        have BK464 := n2_
        have GW464 := n3_
        have GE464 := n4_
        have NB465_464 := n5_
        have NB464_465 := n6_
        clear n0_ n1_ n2_ n3_ n4_ n5_ n6_
        clear hb hbox hg
        refine hK.out _ _ ⟨((HB.out.cell (World.block_lt_of_cell? w _ hw462_0)).trans hw462_0), ((HB.out.cell (World.block_lt_of_cell? w _ hw462_1)).trans hw462_1), ((HB.out.cell (World.block_lt_of_cell? w _ hw462_2)).trans hw462_2), ((HB.out.cell (World.block_lt_of_cell? w _ hw462_3)).trans hw462_3), ((HB.out.cell (World.block_lt_of_cell? w _ hw462_4)).trans hw462_4), ((HB.out.cell (World.block_lt_of_cell? w _ hw463_0)).trans hw463_0), ((HB.out.cell (World.block_lt_of_cell? w _ hw463_1)).trans hw463_1), ((HB.out.cell (World.block_lt_of_cell? w _ hw463_2)).trans hw463_2), ((HB.out.cell (World.block_lt_of_cell? w _ hw463_3)).trans hw463_3), ((HB.out.cell (World.block_lt_of_cell? w _ hw463_4)).trans hw463_4)⟩ (fun hHeld => ?_)
        clear hK K
        refine norm_ (a' := ?_) ?_ ?_
        rotate_left
        · show Act.put _ (some 12) _ = _
          simp only [Act.put, List.setIfInBounds_toArray, List.set_cons_zero, List.set_cons_succ, i64_w, i32_w]
          rfl
        exact norm_ (by simp only [putAll, Act.put, List.setIfInBounds_toArray, List.set_cons_zero, List.set_cons_succ]) (hCont (gb464, gb465) _ ⟨hHeld, (by (with_reducible repeat (first | refine blk_drewN ?_ _ | refine blk_drew ?_ | refine blk_alloc ?_ _)); exact BK464.out), (by (with_reducible repeat (first | refine blk_drewN ?_ _ | refine blk_drew ?_ | refine blk_alloc ?_ _)); exact BK465.out), GW464.out, GE464.out, NB465_464.out, NB464_465.out, GW465.out, GE465.out, (by repeat (first | (with_reducible first | exact HB.out | apply bA_ | apply bN_ | apply b1_ | refine below_set ?_ GE465.out | refine below_set ?_ GE464.out) | exact HB.out))⟩)
    rintro ⟨gb464, gb465⟩ w45 ⟨hS_, h0_, h1_, h2_, h3_, h4_, h5_, h6_, h7_, h8_⟩
    have n0_ : Aside0 (w45.heap[gb464]? = some (.cells #[.string (⟨#[]⟩ : ByteArray), .int .i64 0, .int .i64 0, .int .i64 0, .int .i64 0] 26 (0, 0))) := ⟨h0_⟩
    have n1_ : Aside0 (w45.heap[gb465]? = some (.cells #[.string (⟨#[]⟩ : ByteArray), .int .i64 0, .int .i64 0, .int .i64 0, .int .i64 0] 26 (0, 0))) := ⟨h1_⟩
    have n2_ : Aside0 (w.heap.size ≤ gb464) := ⟨h2_⟩
    have n3_ : Aside0 (w.heap.size ≤ gb464) := ⟨h3_⟩
    have n4_ : Aside0 (gb465 ≠ gb464) := ⟨h4_⟩
    have n5_ : Aside0 (gb464 ≠ gb465) := ⟨h5_⟩
    have n6_ : Aside0 (w.heap.size ≤ gb465) := ⟨h6_⟩
    have n7_ : Aside0 (w.heap.size ≤ gb465) := ⟨h7_⟩
    have n8_ : Aside0 (Below w.heap.size w w45) := ⟨h8_⟩
    clear HB
    clear h0_ h1_ h2_ h3_ h4_ h5_ h6_ h7_ h8_
    have BK464 := n0_
    have BK465 := n1_
    have GW464 := n2_
    have GE464 := n3_
    have NB465_464 := n4_
    have NB464_465 := n5_
    have GW465 := n6_
    have GE465 := n7_
    have HB := n8_
    clear n0_ n1_ n2_ n3_ n4_ n5_ n6_ n7_ n8_
    have hHeld : w45.cell? (ad462.add ((t456).toNat * 5)) = some (.string ((rd_T26 l0 t456).f0)) ∧ w45.cell? ⟨(ad462.add ((t456).toNat * 5)).block, (ad462.add ((t456).toNat * 5)).off + 1, none⟩ = some (.int .i64 ((rd_T26 l0 t456).f1)) ∧ w45.cell? ⟨(ad462.add ((t456).toNat * 5)).block, (ad462.add ((t456).toNat * 5)).off + 2, none⟩ = some (.int .i64 ((rd_T26 l0 t456).f2)) ∧ w45.cell? ⟨(ad462.add ((t456).toNat * 5)).block, (ad462.add ((t456).toNat * 5)).off + 3, none⟩ = some (.int .i64 ((rd_T26 l0 t456).f3)) ∧ w45.cell? ⟨(ad462.add ((t456).toNat * 5)).block, (ad462.add ((t456).toNat * 5)).off + 4, none⟩ = some (.int .i64 ((rd_T26 l0 t456).f4)) ∧ w45.cell? (ad462.add ((t457).toNat * 5)) = some (.string ((rd_T26 l0 t457).f0)) ∧ w45.cell? ⟨(ad462.add ((t457).toNat * 5)).block, (ad462.add ((t457).toNat * 5)).off + 1, none⟩ = some (.int .i64 ((rd_T26 l0 t457).f1)) ∧ w45.cell? ⟨(ad462.add ((t457).toNat * 5)).block, (ad462.add ((t457).toNat * 5)).off + 2, none⟩ = some (.int .i64 ((rd_T26 l0 t457).f2)) ∧ w45.cell? ⟨(ad462.add ((t457).toNat * 5)).block, (ad462.add ((t457).toNat * 5)).off + 3, none⟩ = some (.int .i64 ((rd_T26 l0 t457).f3)) ∧ w45.cell? ⟨(ad462.add ((t457).toNat * 5)).block, (ad462.add ((t457).toNat * 5)).off + 4, none⟩ = some (.int .i64 ((rd_T26 l0 t457).f4)) := hS_
    refine norm_ (a' := ?_) ?_ ?_
    rotate_left
    · simp only [putAll, Act.put, List.setIfInBounds_toArray, List.set_cons_zero, List.set_cons_succ]
      rfl
    refine one_ (i := 10) (N := none) qa36_ rfl rfl (one_of HT_.out (by kernel_rfl)) (by decide) (fun K hK => ?_)
    have hs46 : w45.cell? ⟨gb464, 0, none⟩ = some (.string (⟨#[]⟩ : ByteArray)) := (blk_cell BK464.out 0).trans rfl
    have hfs46 := blk_frozen BK464.out 0
    have hns46_1 := NB465_464.out
    have hms46_1 := NB464_465.out
    have hs47 : w45.cell? ⟨gb464, 1, none⟩ = some (.int .i64 0) := (blk_cell BK464.out 1).trans rfl
    have hfs47 := blk_frozen BK464.out 1
    have hns47_1 := NB465_464.out
    have hms47_1 := NB464_465.out
    have hs48 : w45.cell? ⟨gb464, 2, none⟩ = some (.int .i64 0) := (blk_cell BK464.out 2).trans rfl
    have hfs48 := blk_frozen BK464.out 2
    have hns48_1 := NB465_464.out
    have hms48_1 := NB464_465.out
    have hs49 : w45.cell? ⟨gb464, 3, none⟩ = some (.int .i64 0) := (blk_cell BK464.out 3).trans rfl
    have hfs49 := blk_frozen BK464.out 3
    have hns49_1 := NB465_464.out
    have hms49_1 := NB464_465.out
    have hs50 : w45.cell? ⟨gb464, 4, none⟩ = some (.int .i64 0) := (blk_cell BK464.out 4).trans rfl
    have hfs50 := blk_frozen BK464.out 4
    have hns50_1 := NB465_464.out
    have hms50_1 := NB464_465.out
    refine skip_ (w1 := ?_) (by rfl) rfl ?_ ?_
    rotate_left
    · go_simp
      rfl
    refine hK.out _ _ ⟨((cell_far (p := ⟨gb464, _, none⟩) (by first | exact ne1_ hw462_0 GW464.out | exact ne2_ hw462_0 GW464.out | exact ne3_ hw462_0 GW464.out) _).trans (((cell_far (p := ⟨gb464, _, none⟩) (by first | exact ne1_ hw462_0 GW464.out | exact ne2_ hw462_0 GW464.out | exact ne3_ hw462_0 GW464.out) _).trans (((cell_far (p := ⟨gb464, _, none⟩) (by first | exact ne1_ hw462_0 GW464.out | exact ne2_ hw462_0 GW464.out | exact ne3_ hw462_0 GW464.out) _).trans (((cell_far (p := ⟨gb464, _, none⟩) (by first | exact ne1_ hw462_0 GW464.out | exact ne2_ hw462_0 GW464.out | exact ne3_ hw462_0 GW464.out) _).trans (((cell_far (p := ⟨gb464, _, none⟩) (by first | exact ne1_ hw462_0 GW464.out | exact ne2_ hw462_0 GW464.out | exact ne3_ hw462_0 GW464.out) _).trans (hHeld.1)))))))))), ((cell_far (p := ⟨gb464, _, none⟩) (by first | exact ne1_ hw462_1 GW464.out | exact ne2_ hw462_1 GW464.out | exact ne3_ hw462_1 GW464.out) _).trans (((cell_far (p := ⟨gb464, _, none⟩) (by first | exact ne1_ hw462_1 GW464.out | exact ne2_ hw462_1 GW464.out | exact ne3_ hw462_1 GW464.out) _).trans (((cell_far (p := ⟨gb464, _, none⟩) (by first | exact ne1_ hw462_1 GW464.out | exact ne2_ hw462_1 GW464.out | exact ne3_ hw462_1 GW464.out) _).trans (((cell_far (p := ⟨gb464, _, none⟩) (by first | exact ne1_ hw462_1 GW464.out | exact ne2_ hw462_1 GW464.out | exact ne3_ hw462_1 GW464.out) _).trans (((cell_far (p := ⟨gb464, _, none⟩) (by first | exact ne1_ hw462_1 GW464.out | exact ne2_ hw462_1 GW464.out | exact ne3_ hw462_1 GW464.out) _).trans (hHeld.2.1)))))))))), ((cell_far (p := ⟨gb464, _, none⟩) (by first | exact ne1_ hw462_2 GW464.out | exact ne2_ hw462_2 GW464.out | exact ne3_ hw462_2 GW464.out) _).trans (((cell_far (p := ⟨gb464, _, none⟩) (by first | exact ne1_ hw462_2 GW464.out | exact ne2_ hw462_2 GW464.out | exact ne3_ hw462_2 GW464.out) _).trans (((cell_far (p := ⟨gb464, _, none⟩) (by first | exact ne1_ hw462_2 GW464.out | exact ne2_ hw462_2 GW464.out | exact ne3_ hw462_2 GW464.out) _).trans (((cell_far (p := ⟨gb464, _, none⟩) (by first | exact ne1_ hw462_2 GW464.out | exact ne2_ hw462_2 GW464.out | exact ne3_ hw462_2 GW464.out) _).trans (((cell_far (p := ⟨gb464, _, none⟩) (by first | exact ne1_ hw462_2 GW464.out | exact ne2_ hw462_2 GW464.out | exact ne3_ hw462_2 GW464.out) _).trans (hHeld.2.2.1)))))))))), ((cell_far (p := ⟨gb464, _, none⟩) (by first | exact ne1_ hw462_3 GW464.out | exact ne2_ hw462_3 GW464.out | exact ne3_ hw462_3 GW464.out) _).trans (((cell_far (p := ⟨gb464, _, none⟩) (by first | exact ne1_ hw462_3 GW464.out | exact ne2_ hw462_3 GW464.out | exact ne3_ hw462_3 GW464.out) _).trans (((cell_far (p := ⟨gb464, _, none⟩) (by first | exact ne1_ hw462_3 GW464.out | exact ne2_ hw462_3 GW464.out | exact ne3_ hw462_3 GW464.out) _).trans (((cell_far (p := ⟨gb464, _, none⟩) (by first | exact ne1_ hw462_3 GW464.out | exact ne2_ hw462_3 GW464.out | exact ne3_ hw462_3 GW464.out) _).trans (((cell_far (p := ⟨gb464, _, none⟩) (by first | exact ne1_ hw462_3 GW464.out | exact ne2_ hw462_3 GW464.out | exact ne3_ hw462_3 GW464.out) _).trans (hHeld.2.2.2.1)))))))))), ((cell_far (p := ⟨gb464, _, none⟩) (by first | exact ne1_ hw462_4 GW464.out | exact ne2_ hw462_4 GW464.out | exact ne3_ hw462_4 GW464.out) _).trans (((cell_far (p := ⟨gb464, _, none⟩) (by first | exact ne1_ hw462_4 GW464.out | exact ne2_ hw462_4 GW464.out | exact ne3_ hw462_4 GW464.out) _).trans (((cell_far (p := ⟨gb464, _, none⟩) (by first | exact ne1_ hw462_4 GW464.out | exact ne2_ hw462_4 GW464.out | exact ne3_ hw462_4 GW464.out) _).trans (((cell_far (p := ⟨gb464, _, none⟩) (by first | exact ne1_ hw462_4 GW464.out | exact ne2_ hw462_4 GW464.out | exact ne3_ hw462_4 GW464.out) _).trans (((cell_far (p := ⟨gb464, _, none⟩) (by first | exact ne1_ hw462_4 GW464.out | exact ne2_ hw462_4 GW464.out | exact ne3_ hw462_4 GW464.out) _).trans (hHeld.2.2.2.2.1)))))))))), ((cell_far (p := ⟨gb464, _, none⟩) (by first | exact ne1_ hw463_0 GW464.out | exact ne2_ hw463_0 GW464.out | exact ne3_ hw463_0 GW464.out) _).trans (((cell_far (p := ⟨gb464, _, none⟩) (by first | exact ne1_ hw463_0 GW464.out | exact ne2_ hw463_0 GW464.out | exact ne3_ hw463_0 GW464.out) _).trans (((cell_far (p := ⟨gb464, _, none⟩) (by first | exact ne1_ hw463_0 GW464.out | exact ne2_ hw463_0 GW464.out | exact ne3_ hw463_0 GW464.out) _).trans (((cell_far (p := ⟨gb464, _, none⟩) (by first | exact ne1_ hw463_0 GW464.out | exact ne2_ hw463_0 GW464.out | exact ne3_ hw463_0 GW464.out) _).trans (((cell_far (p := ⟨gb464, _, none⟩) (by first | exact ne1_ hw463_0 GW464.out | exact ne2_ hw463_0 GW464.out | exact ne3_ hw463_0 GW464.out) _).trans (hHeld.2.2.2.2.2.1)))))))))), ((cell_far (p := ⟨gb464, _, none⟩) (by first | exact ne1_ hw463_1 GW464.out | exact ne2_ hw463_1 GW464.out | exact ne3_ hw463_1 GW464.out) _).trans (((cell_far (p := ⟨gb464, _, none⟩) (by first | exact ne1_ hw463_1 GW464.out | exact ne2_ hw463_1 GW464.out | exact ne3_ hw463_1 GW464.out) _).trans (((cell_far (p := ⟨gb464, _, none⟩) (by first | exact ne1_ hw463_1 GW464.out | exact ne2_ hw463_1 GW464.out | exact ne3_ hw463_1 GW464.out) _).trans (((cell_far (p := ⟨gb464, _, none⟩) (by first | exact ne1_ hw463_1 GW464.out | exact ne2_ hw463_1 GW464.out | exact ne3_ hw463_1 GW464.out) _).trans (((cell_far (p := ⟨gb464, _, none⟩) (by first | exact ne1_ hw463_1 GW464.out | exact ne2_ hw463_1 GW464.out | exact ne3_ hw463_1 GW464.out) _).trans (hHeld.2.2.2.2.2.2.1)))))))))), ((cell_far (p := ⟨gb464, _, none⟩) (by first | exact ne1_ hw463_2 GW464.out | exact ne2_ hw463_2 GW464.out | exact ne3_ hw463_2 GW464.out) _).trans (((cell_far (p := ⟨gb464, _, none⟩) (by first | exact ne1_ hw463_2 GW464.out | exact ne2_ hw463_2 GW464.out | exact ne3_ hw463_2 GW464.out) _).trans (((cell_far (p := ⟨gb464, _, none⟩) (by first | exact ne1_ hw463_2 GW464.out | exact ne2_ hw463_2 GW464.out | exact ne3_ hw463_2 GW464.out) _).trans (((cell_far (p := ⟨gb464, _, none⟩) (by first | exact ne1_ hw463_2 GW464.out | exact ne2_ hw463_2 GW464.out | exact ne3_ hw463_2 GW464.out) _).trans (((cell_far (p := ⟨gb464, _, none⟩) (by first | exact ne1_ hw463_2 GW464.out | exact ne2_ hw463_2 GW464.out | exact ne3_ hw463_2 GW464.out) _).trans (hHeld.2.2.2.2.2.2.2.1)))))))))), ((cell_far (p := ⟨gb464, _, none⟩) (by first | exact ne1_ hw463_3 GW464.out | exact ne2_ hw463_3 GW464.out | exact ne3_ hw463_3 GW464.out) _).trans (((cell_far (p := ⟨gb464, _, none⟩) (by first | exact ne1_ hw463_3 GW464.out | exact ne2_ hw463_3 GW464.out | exact ne3_ hw463_3 GW464.out) _).trans (((cell_far (p := ⟨gb464, _, none⟩) (by first | exact ne1_ hw463_3 GW464.out | exact ne2_ hw463_3 GW464.out | exact ne3_ hw463_3 GW464.out) _).trans (((cell_far (p := ⟨gb464, _, none⟩) (by first | exact ne1_ hw463_3 GW464.out | exact ne2_ hw463_3 GW464.out | exact ne3_ hw463_3 GW464.out) _).trans (((cell_far (p := ⟨gb464, _, none⟩) (by first | exact ne1_ hw463_3 GW464.out | exact ne2_ hw463_3 GW464.out | exact ne3_ hw463_3 GW464.out) _).trans (hHeld.2.2.2.2.2.2.2.2.1)))))))))), ((cell_far (p := ⟨gb464, _, none⟩) (by first | exact ne1_ hw463_4 GW464.out | exact ne2_ hw463_4 GW464.out | exact ne3_ hw463_4 GW464.out) _).trans (((cell_far (p := ⟨gb464, _, none⟩) (by first | exact ne1_ hw463_4 GW464.out | exact ne2_ hw463_4 GW464.out | exact ne3_ hw463_4 GW464.out) _).trans (((cell_far (p := ⟨gb464, _, none⟩) (by first | exact ne1_ hw463_4 GW464.out | exact ne2_ hw463_4 GW464.out | exact ne3_ hw463_4 GW464.out) _).trans (((cell_far (p := ⟨gb464, _, none⟩) (by first | exact ne1_ hw463_4 GW464.out | exact ne2_ hw463_4 GW464.out | exact ne3_ hw463_4 GW464.out) _).trans (((cell_far (p := ⟨gb464, _, none⟩) (by first | exact ne1_ hw463_4 GW464.out | exact ne2_ hw463_4 GW464.out | exact ne3_ hw463_4 GW464.out) _).trans (hHeld.2.2.2.2.2.2.2.2.2))))))))))⟩ (fun hHeld => ?_)
    clear hK K
    refine one_ (i := 11) (N := none) qa72_ rfl rfl (one_of HT_.out (by kernel_rfl)) (by decide) (fun K hK => ?_)
    have hs51 : w45.cell? ⟨gb465, 0, none⟩ = some (.string (⟨#[]⟩ : ByteArray)) := (blk_cell BK465.out 0).trans rfl
    have hfs51 := blk_frozen BK465.out 0
    have hns51_0 := NB464_465.out
    have hms51_0 := NB465_464.out
    have hs52 : w45.cell? ⟨gb465, 1, none⟩ = some (.int .i64 0) := (blk_cell BK465.out 1).trans rfl
    have hfs52 := blk_frozen BK465.out 1
    have hns52_0 := NB464_465.out
    have hms52_0 := NB465_464.out
    have hs53 : w45.cell? ⟨gb465, 2, none⟩ = some (.int .i64 0) := (blk_cell BK465.out 2).trans rfl
    have hfs53 := blk_frozen BK465.out 2
    have hns53_0 := NB464_465.out
    have hms53_0 := NB465_464.out
    have hs54 : w45.cell? ⟨gb465, 3, none⟩ = some (.int .i64 0) := (blk_cell BK465.out 3).trans rfl
    have hfs54 := blk_frozen BK465.out 3
    have hns54_0 := NB464_465.out
    have hms54_0 := NB465_464.out
    have hs55 : w45.cell? ⟨gb465, 4, none⟩ = some (.int .i64 0) := (blk_cell BK465.out 4).trans rfl
    have hfs55 := blk_frozen BK465.out 4
    have hns55_0 := NB464_465.out
    have hms55_0 := NB465_464.out
    refine skip_ (w1 := ?_) (by rfl) rfl ?_ ?_
    rotate_left
    · go_simp
      rfl
    refine hK.out _ _ ⟨((cell_far (p := ⟨gb465, _, none⟩) (by first | exact ne1_ hw462_0 GW465.out | exact ne2_ hw462_0 GW465.out | exact ne3_ hw462_0 GW465.out) _).trans (((cell_far (p := ⟨gb465, _, none⟩) (by first | exact ne1_ hw462_0 GW465.out | exact ne2_ hw462_0 GW465.out | exact ne3_ hw462_0 GW465.out) _).trans (((cell_far (p := ⟨gb465, _, none⟩) (by first | exact ne1_ hw462_0 GW465.out | exact ne2_ hw462_0 GW465.out | exact ne3_ hw462_0 GW465.out) _).trans (((cell_far (p := ⟨gb465, _, none⟩) (by first | exact ne1_ hw462_0 GW465.out | exact ne2_ hw462_0 GW465.out | exact ne3_ hw462_0 GW465.out) _).trans (((cell_far (p := ⟨gb465, _, none⟩) (by first | exact ne1_ hw462_0 GW465.out | exact ne2_ hw462_0 GW465.out | exact ne3_ hw462_0 GW465.out) _).trans (hHeld.1)))))))))), ((cell_far (p := ⟨gb465, _, none⟩) (by first | exact ne1_ hw462_1 GW465.out | exact ne2_ hw462_1 GW465.out | exact ne3_ hw462_1 GW465.out) _).trans (((cell_far (p := ⟨gb465, _, none⟩) (by first | exact ne1_ hw462_1 GW465.out | exact ne2_ hw462_1 GW465.out | exact ne3_ hw462_1 GW465.out) _).trans (((cell_far (p := ⟨gb465, _, none⟩) (by first | exact ne1_ hw462_1 GW465.out | exact ne2_ hw462_1 GW465.out | exact ne3_ hw462_1 GW465.out) _).trans (((cell_far (p := ⟨gb465, _, none⟩) (by first | exact ne1_ hw462_1 GW465.out | exact ne2_ hw462_1 GW465.out | exact ne3_ hw462_1 GW465.out) _).trans (((cell_far (p := ⟨gb465, _, none⟩) (by first | exact ne1_ hw462_1 GW465.out | exact ne2_ hw462_1 GW465.out | exact ne3_ hw462_1 GW465.out) _).trans (hHeld.2.1)))))))))), ((cell_far (p := ⟨gb465, _, none⟩) (by first | exact ne1_ hw462_2 GW465.out | exact ne2_ hw462_2 GW465.out | exact ne3_ hw462_2 GW465.out) _).trans (((cell_far (p := ⟨gb465, _, none⟩) (by first | exact ne1_ hw462_2 GW465.out | exact ne2_ hw462_2 GW465.out | exact ne3_ hw462_2 GW465.out) _).trans (((cell_far (p := ⟨gb465, _, none⟩) (by first | exact ne1_ hw462_2 GW465.out | exact ne2_ hw462_2 GW465.out | exact ne3_ hw462_2 GW465.out) _).trans (((cell_far (p := ⟨gb465, _, none⟩) (by first | exact ne1_ hw462_2 GW465.out | exact ne2_ hw462_2 GW465.out | exact ne3_ hw462_2 GW465.out) _).trans (((cell_far (p := ⟨gb465, _, none⟩) (by first | exact ne1_ hw462_2 GW465.out | exact ne2_ hw462_2 GW465.out | exact ne3_ hw462_2 GW465.out) _).trans (hHeld.2.2.1)))))))))), ((cell_far (p := ⟨gb465, _, none⟩) (by first | exact ne1_ hw462_3 GW465.out | exact ne2_ hw462_3 GW465.out | exact ne3_ hw462_3 GW465.out) _).trans (((cell_far (p := ⟨gb465, _, none⟩) (by first | exact ne1_ hw462_3 GW465.out | exact ne2_ hw462_3 GW465.out | exact ne3_ hw462_3 GW465.out) _).trans (((cell_far (p := ⟨gb465, _, none⟩) (by first | exact ne1_ hw462_3 GW465.out | exact ne2_ hw462_3 GW465.out | exact ne3_ hw462_3 GW465.out) _).trans (((cell_far (p := ⟨gb465, _, none⟩) (by first | exact ne1_ hw462_3 GW465.out | exact ne2_ hw462_3 GW465.out | exact ne3_ hw462_3 GW465.out) _).trans (((cell_far (p := ⟨gb465, _, none⟩) (by first | exact ne1_ hw462_3 GW465.out | exact ne2_ hw462_3 GW465.out | exact ne3_ hw462_3 GW465.out) _).trans (hHeld.2.2.2.1)))))))))), ((cell_far (p := ⟨gb465, _, none⟩) (by first | exact ne1_ hw462_4 GW465.out | exact ne2_ hw462_4 GW465.out | exact ne3_ hw462_4 GW465.out) _).trans (((cell_far (p := ⟨gb465, _, none⟩) (by first | exact ne1_ hw462_4 GW465.out | exact ne2_ hw462_4 GW465.out | exact ne3_ hw462_4 GW465.out) _).trans (((cell_far (p := ⟨gb465, _, none⟩) (by first | exact ne1_ hw462_4 GW465.out | exact ne2_ hw462_4 GW465.out | exact ne3_ hw462_4 GW465.out) _).trans (((cell_far (p := ⟨gb465, _, none⟩) (by first | exact ne1_ hw462_4 GW465.out | exact ne2_ hw462_4 GW465.out | exact ne3_ hw462_4 GW465.out) _).trans (((cell_far (p := ⟨gb465, _, none⟩) (by first | exact ne1_ hw462_4 GW465.out | exact ne2_ hw462_4 GW465.out | exact ne3_ hw462_4 GW465.out) _).trans (hHeld.2.2.2.2.1)))))))))), ((cell_far (p := ⟨gb465, _, none⟩) (by first | exact ne1_ hw463_0 GW465.out | exact ne2_ hw463_0 GW465.out | exact ne3_ hw463_0 GW465.out) _).trans (((cell_far (p := ⟨gb465, _, none⟩) (by first | exact ne1_ hw463_0 GW465.out | exact ne2_ hw463_0 GW465.out | exact ne3_ hw463_0 GW465.out) _).trans (((cell_far (p := ⟨gb465, _, none⟩) (by first | exact ne1_ hw463_0 GW465.out | exact ne2_ hw463_0 GW465.out | exact ne3_ hw463_0 GW465.out) _).trans (((cell_far (p := ⟨gb465, _, none⟩) (by first | exact ne1_ hw463_0 GW465.out | exact ne2_ hw463_0 GW465.out | exact ne3_ hw463_0 GW465.out) _).trans (((cell_far (p := ⟨gb465, _, none⟩) (by first | exact ne1_ hw463_0 GW465.out | exact ne2_ hw463_0 GW465.out | exact ne3_ hw463_0 GW465.out) _).trans (hHeld.2.2.2.2.2.1)))))))))), ((cell_far (p := ⟨gb465, _, none⟩) (by first | exact ne1_ hw463_1 GW465.out | exact ne2_ hw463_1 GW465.out | exact ne3_ hw463_1 GW465.out) _).trans (((cell_far (p := ⟨gb465, _, none⟩) (by first | exact ne1_ hw463_1 GW465.out | exact ne2_ hw463_1 GW465.out | exact ne3_ hw463_1 GW465.out) _).trans (((cell_far (p := ⟨gb465, _, none⟩) (by first | exact ne1_ hw463_1 GW465.out | exact ne2_ hw463_1 GW465.out | exact ne3_ hw463_1 GW465.out) _).trans (((cell_far (p := ⟨gb465, _, none⟩) (by first | exact ne1_ hw463_1 GW465.out | exact ne2_ hw463_1 GW465.out | exact ne3_ hw463_1 GW465.out) _).trans (((cell_far (p := ⟨gb465, _, none⟩) (by first | exact ne1_ hw463_1 GW465.out | exact ne2_ hw463_1 GW465.out | exact ne3_ hw463_1 GW465.out) _).trans (hHeld.2.2.2.2.2.2.1)))))))))), ((cell_far (p := ⟨gb465, _, none⟩) (by first | exact ne1_ hw463_2 GW465.out | exact ne2_ hw463_2 GW465.out | exact ne3_ hw463_2 GW465.out) _).trans (((cell_far (p := ⟨gb465, _, none⟩) (by first | exact ne1_ hw463_2 GW465.out | exact ne2_ hw463_2 GW465.out | exact ne3_ hw463_2 GW465.out) _).trans (((cell_far (p := ⟨gb465, _, none⟩) (by first | exact ne1_ hw463_2 GW465.out | exact ne2_ hw463_2 GW465.out | exact ne3_ hw463_2 GW465.out) _).trans (((cell_far (p := ⟨gb465, _, none⟩) (by first | exact ne1_ hw463_2 GW465.out | exact ne2_ hw463_2 GW465.out | exact ne3_ hw463_2 GW465.out) _).trans (((cell_far (p := ⟨gb465, _, none⟩) (by first | exact ne1_ hw463_2 GW465.out | exact ne2_ hw463_2 GW465.out | exact ne3_ hw463_2 GW465.out) _).trans (hHeld.2.2.2.2.2.2.2.1)))))))))), ((cell_far (p := ⟨gb465, _, none⟩) (by first | exact ne1_ hw463_3 GW465.out | exact ne2_ hw463_3 GW465.out | exact ne3_ hw463_3 GW465.out) _).trans (((cell_far (p := ⟨gb465, _, none⟩) (by first | exact ne1_ hw463_3 GW465.out | exact ne2_ hw463_3 GW465.out | exact ne3_ hw463_3 GW465.out) _).trans (((cell_far (p := ⟨gb465, _, none⟩) (by first | exact ne1_ hw463_3 GW465.out | exact ne2_ hw463_3 GW465.out | exact ne3_ hw463_3 GW465.out) _).trans (((cell_far (p := ⟨gb465, _, none⟩) (by first | exact ne1_ hw463_3 GW465.out | exact ne2_ hw463_3 GW465.out | exact ne3_ hw463_3 GW465.out) _).trans (((cell_far (p := ⟨gb465, _, none⟩) (by first | exact ne1_ hw463_3 GW465.out | exact ne2_ hw463_3 GW465.out | exact ne3_ hw463_3 GW465.out) _).trans (hHeld.2.2.2.2.2.2.2.2.1)))))))))), ((cell_far (p := ⟨gb465, _, none⟩) (by first | exact ne1_ hw463_4 GW465.out | exact ne2_ hw463_4 GW465.out | exact ne3_ hw463_4 GW465.out) _).trans (((cell_far (p := ⟨gb465, _, none⟩) (by first | exact ne1_ hw463_4 GW465.out | exact ne2_ hw463_4 GW465.out | exact ne3_ hw463_4 GW465.out) _).trans (((cell_far (p := ⟨gb465, _, none⟩) (by first | exact ne1_ hw463_4 GW465.out | exact ne2_ hw463_4 GW465.out | exact ne3_ hw463_4 GW465.out) _).trans (((cell_far (p := ⟨gb465, _, none⟩) (by first | exact ne1_ hw463_4 GW465.out | exact ne2_ hw463_4 GW465.out | exact ne3_ hw463_4 GW465.out) _).trans (((cell_far (p := ⟨gb465, _, none⟩) (by first | exact ne1_ hw463_4 GW465.out | exact ne2_ hw463_4 GW465.out | exact ne3_ hw463_4 GW465.out) _).trans (hHeld.2.2.2.2.2.2.2.2.2))))))))))⟩ (fun hHeld => ?_)
    clear hK K
    refine done_ (done_of HT_.out (by kernel_rfl)) ?_
    have hnb56 := NB464_465.out
    have hnc56 := NB465_464.out
    obtain ⟨hcz57_0, hcz57_1, hcz57_2, hcz57_3, hcz57_4, hfz57_0, hfz57_1, hfz57_2, hfz57_3, hfz57_4⟩ := blk5_ BK464.out
    obtain ⟨hcz58_0, hcz58_1, hcz58_2, hcz58_3, hcz58_4, hfz58_0, hfz58_1, hfz58_2, hfz58_3, hfz58_4⟩ := blk5_ BK465.out
    try go_wp2
    have n0_ : Aside0 (((((((((((((w45.setCell ⟨gb464, 0, none⟩ (.string ((rd_T26 l0 t456).f0))).setCell ⟨gb464, 1, none⟩ (.int .i64 ((rd_T26 l0 t456).f1))).setCell ⟨gb464, 2, none⟩ (.int .i64 ((rd_T26 l0 t456).f2))).setCell ⟨gb464, 3, none⟩ (.int .i64 ((rd_T26 l0 t456).f3))).setCell ⟨gb464, 4, none⟩ (.int .i64 ((rd_T26 l0 t456).f4))).setCell ⟨gb465, 0, none⟩ (.string ((rd_T26 l0 t457).f0))).setCell ⟨gb465, 1, none⟩ (.int .i64 ((rd_T26 l0 t457).f1))).setCell ⟨gb465, 2, none⟩ (.int .i64 ((rd_T26 l0 t457).f2))).setCell ⟨gb465, 3, none⟩ (.int .i64 ((rd_T26 l0 t457).f3))).setCell ⟨gb465, 4, none⟩ (.int .i64 ((rd_T26 l0 t457).f4))).setCell ⟨gb464, 3, none⟩ (.int .i64 (wrap64 (((rd_T26 l0 t456).f3) - a3)))).setCell ⟨gb465, 3, none⟩ (.int .i64 (wrap64 (((rd_T26 l0 t457).f3) + a3)))).heap[gb464]? = some (.cells #[.string ((rd_T26 l0 t456).f0), .int .i64 ((rd_T26 l0 t456).f1), .int .i64 ((rd_T26 l0 t456).f2), .int .i64 (wrap64 (((rd_T26 l0 t456).f3) - a3)), .int .i64 ((rd_T26 l0 t456).f4)] 26 (0, 0))) := ⟨by (with_reducible repeat (first | refine blk_drewN ?_ _ | refine blk_drew ?_ | refine blk_alloc ?_ _)); refine blk_far ?_ NB464_465.out _; (with_reducible repeat (first | refine blk_drewN ?_ _ | refine blk_drew ?_ | refine blk_alloc ?_ _)); refine blk_put (cs := #[.string ((rd_T26 l0 t456).f0), .int .i64 ((rd_T26 l0 t456).f1), .int .i64 ((rd_T26 l0 t456).f2), .int .i64 ((rd_T26 l0 t456).f3), .int .i64 ((rd_T26 l0 t456).f4)]) ?_ 3 _ rfl; (with_reducible repeat (first | refine blk_drewN ?_ _ | refine blk_drew ?_ | refine blk_alloc ?_ _)); refine blk_far ?_ NB464_465.out _; (with_reducible repeat (first | refine blk_drewN ?_ _ | refine blk_drew ?_ | refine blk_alloc ?_ _)); refine blk_far ?_ NB464_465.out _; (with_reducible repeat (first | refine blk_drewN ?_ _ | refine blk_drew ?_ | refine blk_alloc ?_ _)); refine blk_far ?_ NB464_465.out _; (with_reducible repeat (first | refine blk_drewN ?_ _ | refine blk_drew ?_ | refine blk_alloc ?_ _)); refine blk_far ?_ NB464_465.out _; (with_reducible repeat (first | refine blk_drewN ?_ _ | refine blk_drew ?_ | refine blk_alloc ?_ _)); refine blk_far ?_ NB464_465.out _; (with_reducible repeat (first | refine blk_drewN ?_ _ | refine blk_drew ?_ | refine blk_alloc ?_ _)); refine blk_put (cs := #[.string ((rd_T26 l0 t456).f0), .int .i64 ((rd_T26 l0 t456).f1), .int .i64 ((rd_T26 l0 t456).f2), .int .i64 ((rd_T26 l0 t456).f3), .int .i64 0]) ?_ 4 _ rfl; (with_reducible repeat (first | refine blk_drewN ?_ _ | refine blk_drew ?_ | refine blk_alloc ?_ _)); refine blk_put (cs := #[.string ((rd_T26 l0 t456).f0), .int .i64 ((rd_T26 l0 t456).f1), .int .i64 ((rd_T26 l0 t456).f2), .int .i64 0, .int .i64 0]) ?_ 3 _ rfl; (with_reducible repeat (first | refine blk_drewN ?_ _ | refine blk_drew ?_ | refine blk_alloc ?_ _)); refine blk_put (cs := #[.string ((rd_T26 l0 t456).f0), .int .i64 ((rd_T26 l0 t456).f1), .int .i64 0, .int .i64 0, .int .i64 0]) ?_ 2 _ rfl; (with_reducible repeat (first | refine blk_drewN ?_ _ | refine blk_drew ?_ | refine blk_alloc ?_ _)); refine blk_put (cs := #[.string ((rd_T26 l0 t456).f0), .int .i64 0, .int .i64 0, .int .i64 0, .int .i64 0]) ?_ 1 _ rfl; (with_reducible repeat (first | refine blk_drewN ?_ _ | refine blk_drew ?_ | refine blk_alloc ?_ _)); refine blk_put (cs := #[.string (⟨#[]⟩ : ByteArray), .int .i64 0, .int .i64 0, .int .i64 0, .int .i64 0]) ?_ 0 _ rfl; (with_reducible repeat (first | refine blk_drewN ?_ _ | refine blk_drew ?_ | refine blk_alloc ?_ _)); exact BK464.out⟩
    have n1_ : Aside0 (((((((((((((w45.setCell ⟨gb464, 0, none⟩ (.string ((rd_T26 l0 t456).f0))).setCell ⟨gb464, 1, none⟩ (.int .i64 ((rd_T26 l0 t456).f1))).setCell ⟨gb464, 2, none⟩ (.int .i64 ((rd_T26 l0 t456).f2))).setCell ⟨gb464, 3, none⟩ (.int .i64 ((rd_T26 l0 t456).f3))).setCell ⟨gb464, 4, none⟩ (.int .i64 ((rd_T26 l0 t456).f4))).setCell ⟨gb465, 0, none⟩ (.string ((rd_T26 l0 t457).f0))).setCell ⟨gb465, 1, none⟩ (.int .i64 ((rd_T26 l0 t457).f1))).setCell ⟨gb465, 2, none⟩ (.int .i64 ((rd_T26 l0 t457).f2))).setCell ⟨gb465, 3, none⟩ (.int .i64 ((rd_T26 l0 t457).f3))).setCell ⟨gb465, 4, none⟩ (.int .i64 ((rd_T26 l0 t457).f4))).setCell ⟨gb464, 3, none⟩ (.int .i64 (wrap64 (((rd_T26 l0 t456).f3) - a3)))).setCell ⟨gb465, 3, none⟩ (.int .i64 (wrap64 (((rd_T26 l0 t457).f3) + a3)))).heap[gb465]? = some (.cells #[.string ((rd_T26 l0 t457).f0), .int .i64 ((rd_T26 l0 t457).f1), .int .i64 ((rd_T26 l0 t457).f2), .int .i64 (wrap64 (((rd_T26 l0 t457).f3) + a3)), .int .i64 ((rd_T26 l0 t457).f4)] 26 (0, 0))) := ⟨by (with_reducible repeat (first | refine blk_drewN ?_ _ | refine blk_drew ?_ | refine blk_alloc ?_ _)); refine blk_put (cs := #[.string ((rd_T26 l0 t457).f0), .int .i64 ((rd_T26 l0 t457).f1), .int .i64 ((rd_T26 l0 t457).f2), .int .i64 ((rd_T26 l0 t457).f3), .int .i64 ((rd_T26 l0 t457).f4)]) ?_ 3 _ rfl; (with_reducible repeat (first | refine blk_drewN ?_ _ | refine blk_drew ?_ | refine blk_alloc ?_ _)); refine blk_far ?_ NB465_464.out _; (with_reducible repeat (first | refine blk_drewN ?_ _ | refine blk_drew ?_ | refine blk_alloc ?_ _)); refine blk_put (cs := #[.string ((rd_T26 l0 t457).f0), .int .i64 ((rd_T26 l0 t457).f1), .int .i64 ((rd_T26 l0 t457).f2), .int .i64 ((rd_T26 l0 t457).f3), .int .i64 0]) ?_ 4 _ rfl; (with_reducible repeat (first | refine blk_drewN ?_ _ | refine blk_drew ?_ | refine blk_alloc ?_ _)); refine blk_put (cs := #[.string ((rd_T26 l0 t457).f0), .int .i64 ((rd_T26 l0 t457).f1), .int .i64 ((rd_T26 l0 t457).f2), .int .i64 0, .int .i64 0]) ?_ 3 _ rfl; (with_reducible repeat (first | refine blk_drewN ?_ _ | refine blk_drew ?_ | refine blk_alloc ?_ _)); refine blk_put (cs := #[.string ((rd_T26 l0 t457).f0), .int .i64 ((rd_T26 l0 t457).f1), .int .i64 0, .int .i64 0, .int .i64 0]) ?_ 2 _ rfl; (with_reducible repeat (first | refine blk_drewN ?_ _ | refine blk_drew ?_ | refine blk_alloc ?_ _)); refine blk_put (cs := #[.string ((rd_T26 l0 t457).f0), .int .i64 0, .int .i64 0, .int .i64 0, .int .i64 0]) ?_ 1 _ rfl; (with_reducible repeat (first | refine blk_drewN ?_ _ | refine blk_drew ?_ | refine blk_alloc ?_ _)); refine blk_put (cs := #[.string (⟨#[]⟩ : ByteArray), .int .i64 0, .int .i64 0, .int .i64 0, .int .i64 0]) ?_ 0 _ rfl; (with_reducible repeat (first | refine blk_drewN ?_ _ | refine blk_drew ?_ | refine blk_alloc ?_ _)); refine blk_far ?_ NB465_464.out _; (with_reducible repeat (first | refine blk_drewN ?_ _ | refine blk_drew ?_ | refine blk_alloc ?_ _)); refine blk_far ?_ NB465_464.out _; (with_reducible repeat (first | refine blk_drewN ?_ _ | refine blk_drew ?_ | refine blk_alloc ?_ _)); refine blk_far ?_ NB465_464.out _; (with_reducible repeat (first | refine blk_drewN ?_ _ | refine blk_drew ?_ | refine blk_alloc ?_ _)); refine blk_far ?_ NB465_464.out _; (with_reducible repeat (first | refine blk_drewN ?_ _ | refine blk_drew ?_ | refine blk_alloc ?_ _)); refine blk_far ?_ NB465_464.out _; (with_reducible repeat (first | refine blk_drewN ?_ _ | refine blk_drew ?_ | refine blk_alloc ?_ _)); exact BK465.out⟩
    have n2_ : Aside0 (Below w.heap.size w ((((((((((((w45.setCell ⟨gb464, 0, none⟩ (.string ((rd_T26 l0 t456).f0))).setCell ⟨gb464, 1, none⟩ (.int .i64 ((rd_T26 l0 t456).f1))).setCell ⟨gb464, 2, none⟩ (.int .i64 ((rd_T26 l0 t456).f2))).setCell ⟨gb464, 3, none⟩ (.int .i64 ((rd_T26 l0 t456).f3))).setCell ⟨gb464, 4, none⟩ (.int .i64 ((rd_T26 l0 t456).f4))).setCell ⟨gb465, 0, none⟩ (.string ((rd_T26 l0 t457).f0))).setCell ⟨gb465, 1, none⟩ (.int .i64 ((rd_T26 l0 t457).f1))).setCell ⟨gb465, 2, none⟩ (.int .i64 ((rd_T26 l0 t457).f2))).setCell ⟨gb465, 3, none⟩ (.int .i64 ((rd_T26 l0 t457).f3))).setCell ⟨gb465, 4, none⟩ (.int .i64 ((rd_T26 l0 t457).f4))).setCell ⟨gb464, 3, none⟩ (.int .i64 (wrap64 (((rd_T26 l0 t456).f3) - a3)))).setCell ⟨gb465, 3, none⟩ (.int .i64 (wrap64 (((rd_T26 l0 t457).f3) + a3))))) := ⟨by repeat (first | (with_reducible first | exact HB.out | apply bA_ | apply bN_ | apply b1_ | refine below_set ?_ GE464.out | refine below_set ?_ GE465.out) | exact HB.out)⟩
    (try clear BK464)
    (try clear BK465)
    (try clear HB)
    generalize ((((((((((((w45.setCell ⟨gb464, 0, none⟩ (.string ((rd_T26 l0 t456).f0))).setCell ⟨gb464, 1, none⟩ (.int .i64 ((rd_T26 l0 t456).f1))).setCell ⟨gb464, 2, none⟩ (.int .i64 ((rd_T26 l0 t456).f2))).setCell ⟨gb464, 3, none⟩ (.int .i64 ((rd_T26 l0 t456).f3))).setCell ⟨gb464, 4, none⟩ (.int .i64 ((rd_T26 l0 t456).f4))).setCell ⟨gb465, 0, none⟩ (.string ((rd_T26 l0 t457).f0))).setCell ⟨gb465, 1, none⟩ (.int .i64 ((rd_T26 l0 t457).f1))).setCell ⟨gb465, 2, none⟩ (.int .i64 ((rd_T26 l0 t457).f2))).setCell ⟨gb465, 3, none⟩ (.int .i64 ((rd_T26 l0 t457).f3))).setCell ⟨gb465, 4, none⟩ (.int .i64 ((rd_T26 l0 t457).f4))).setCell ⟨gb464, 3, none⟩ (.int .i64 (wrap64 (((rd_T26 l0 t456).f3) - a3)))).setCell ⟨gb465, 3, none⟩ (.int .i64 (wrap64 (((rd_T26 l0 t457).f3) + a3)))) = w59 at n0_ n1_ n2_ ⊢
    have BK464 := n0_
    have BK465 := n1_
    have HB := n2_
    clear n0_ n1_ n2_
    have n0_ := Aside0.mk (blk_drew BK464.out)
    have n1_ := Aside0.mk (blk_drew BK465.out)
    have n2_ := Aside0.mk (below_drew1 HB.out)
    clear BK464
    clear BK465
    clear HB
    have BK464 := n0_
    have BK465 := n1_
    have HB := n2_
    clear n0_ n1_ n2_
    refine start_ (n := 8) (S := fun w' => w'.cell? ⟨gb464, 0, none⟩ = some (.string ((rd_T26 l0 t456).f0)) ∧ w'.cell? ⟨gb464, 1, none⟩ = some (.int .i64 ((rd_T26 l0 t456).f1)) ∧ w'.cell? ⟨gb464, 2, none⟩ = some (.int .i64 ((rd_T26 l0 t456).f2)) ∧ w'.cell? ⟨gb464, 3, none⟩ = some (.int .i64 (wrap64 (((rd_T26 l0 t456).f3) - a3))) ∧ w'.cell? ⟨gb464, 4, none⟩ = some (.int .i64 ((rd_T26 l0 t456).f4)) ∧ w'.cell? ⟨gb465, 0, none⟩ = some (.string ((rd_T26 l0 t457).f0)) ∧ w'.cell? ⟨gb465, 1, none⟩ = some (.int .i64 ((rd_T26 l0 t457).f1)) ∧ w'.cell? ⟨gb465, 2, none⟩ = some (.int .i64 ((rd_T26 l0 t457).f2)) ∧ w'.cell? ⟨gb465, 3, none⟩ = some (.int .i64 (wrap64 (((rd_T26 l0 t457).f3) + a3))) ∧ w'.cell? ⟨gb465, 4, none⟩ = some (.int .i64 ((rd_T26 l0 t457).f4))) (ds := []) #[false, false, false, false, false, false, false, false] (by kernel_rfl) rfl rfl ⟨(blk_cell BK464.out 0).trans rfl, (blk_cell BK464.out 1).trans rfl, (blk_cell BK464.out 2).trans rfl, (blk_cell BK464.out 3).trans rfl, (blk_cell BK464.out 4).trans rfl, (blk_cell BK465.out 0).trans rfl, (blk_cell BK465.out 1).trans rfl, (blk_cell BK465.out 2).trans rfl, (blk_cell BK465.out 3).trans rfl, (blk_cell BK465.out 4).trans rfl⟩ (fun hHeld => ?_); refine with_tabW spec_ShareCrew.tab7 spec_ShareCrew.bits7 (fun HT_ HW_ => ?_)
    generalize w59.drew = w60 at BK464 BK465 HB hHeld ⊢
    refine pure_ (i := 0) (N := some 73) (v := ?_) (a' := ?_) #[true, false, false, false, false, false, false, false] rfl rfl (any_of HT_.out (by kernel_rfl)) (fun _ _ _ h => h) (Or.inl ⟨by rfl, ?_⟩) ?_ ?_
    rotate_left
    · intro w'
      go_simp
      with_reducible rfl
    rotate_left
    · simp only [Act.put, List.setIfInBounds_toArray, List.set_cons_zero, List.set_cons_succ, i64_w, i32_w]
      rfl
    refine pure_ (i := 1) (N := some 74) (v := ?_) (a' := ?_) #[true, true, false, false, false, false, false, false] rfl rfl (any_of HT_.out (by kernel_rfl)) (fun _ _ _ h => h) (Or.inl ⟨by rfl, ?_⟩) ?_ ?_
    rotate_left
    · intro w'
      go_simp
      with_reducible rfl
    rotate_left
    · simp only [Act.put, List.setIfInBounds_toArray, List.set_cons_zero, List.set_cons_succ, i64_w, i32_w]
      rfl
    refine pure_ (i := 4) (N := some 77) (v := ?_) (a' := ?_) #[true, true, false, false, true, false, false, false] rfl rfl (any_of HT_.out (by kernel_rfl)) (fun _ _ _ h => h) (Or.inl ⟨by rfl, ?_⟩) ?_ ?_
    rotate_left
    · intro w'
      go_simp
      with_reducible rfl
    rotate_left
    · simp only [Act.put, List.setIfInBounds_toArray, List.set_cons_zero, List.set_cons_succ, i64_w, i32_w]
      rfl
    refine take_ (i := 2) (N := some 75) (v := ?_) (a' := ?_) #[true, true, true, false, true, false, false, false] rfl rfl (take_ofW HT_.out HW_.out (by kernel_rfl)) (fun _ _ _ h => h) (Or.inl ⟨by rfl, ?_⟩) hHeld ?_ ?_
    rotate_left
    · rintro w' ⟨s0, s1, s2, s3, s4, s5, s6, s7, s8, s9⟩
      go_simp
      with_reducible rfl
    rotate_left
    · simp only [Act.put, List.setIfInBounds_toArray, List.set_cons_zero, List.set_cons_succ, i64_w, i32_w]
      rfl
    refine take_ (i := 5) (N := some 78) (v := ?_) (a' := ?_) #[true, true, true, false, true, true, false, false] rfl rfl (take_ofW HT_.out HW_.out (by kernel_rfl)) (fun _ _ _ h => h) (Or.inl ⟨by rfl, ?_⟩) hHeld ?_ ?_
    rotate_left
    · rintro w' ⟨s0, s1, s2, s3, s4, s5, s6, s7, s8, s9⟩
      go_simp
      with_reducible rfl
    rotate_left
    · simp only [Act.put, List.setIfInBounds_toArray, List.set_cons_zero, List.set_cons_succ, i64_w, i32_w]
      rfl
    refine one_ (i := 3) (N := some 76) #[true, true, true, true, true, true, false, false] rfl rfl (one_of HT_.out (by kernel_rfl)) (by decide) (fun K hK => ?_)
    refine goes_ Try.func70 (by kernel_rfl) rfl #[.slice (some ad462) l0.length c0, .int .i64 t456, .agg #[.string ((rd_T26 l0 t456).f0), .int .i64 ((rd_T26 l0 t456).f1), .int .i64 ((rd_T26 l0 t456).f2), .int .i64 (wrap64 (((rd_T26 l0 t456).f3) - a3)), .int .i64 ((rd_T26 l0 t456).f4)]] (by rfl) rfl rfl (by (try simp only [List.map_toArray, List.map_cons, List.map_nil]); first | done | rfl) ?_
    with_reducible refine (spec_apWith.calls _ _ l0 t456 ((rd_T26 l0 t456).f0) ((rd_T26 l0 t456).f1) ((rd_T26 l0 t456).f2) (wrap64 (((rd_T26 l0 t456).f3) - a3)) ((rd_T26 l0 t456).f4) t466 _ ?side1 ?side2 A38.out).mono ?_
    (case side1 => repeat (first | exact (Kd.C_below HR0.out HB.out) | (with_reducible refine Kd.C_alloc ?_ _) | (with_reducible refine Kd.C_drewN ?_ _) | (with_reducible refine Kd.C_drew ?_)))
    (case side2 => exact HC0.out)
    rintro e w61 ⟨v467, rfl, ho0, hb⟩
    refine ⟨_, rfl, ?_⟩
    have n0_ := Aside0.mk (Kd.R_lower (Kd.R_newB (Kd.R_newB ho0 (g := gb464) (o := .cells #[.string ((rd_T26 l0 t456).f0), .int .i64 ((rd_T26 l0 t456).f1), .int .i64 ((rd_T26 l0 t456).f2), .int .i64 (wrap64 (((rd_T26 l0 t456).f3) - a3)), .int .i64 ((rd_T26 l0 t456).f4)] 26 (0, 0)) (by (with_reducible repeat (first | refine blk_drewN ?_ _ | refine blk_drew ?_ | refine blk_alloc ?_ _)); exact BK464.out)) (g := gb465) (o := .cells #[.string ((rd_T26 l0 t457).f0), .int .i64 ((rd_T26 l0 t457).f1), .int .i64 ((rd_T26 l0 t457).f2), .int .i64 (wrap64 (((rd_T26 l0 t457).f3) + a3)), .int .i64 ((rd_T26 l0 t457).f4)] 26 (0, 0)) (by (with_reducible repeat (first | refine blk_drewN ?_ _ | refine blk_drew ?_ | refine blk_alloc ?_ _)); exact BK465.out)) (below_size (by repeat (first | (with_reducible first | exact HB.out | apply bA_ | apply bN_ | apply b1_ | refine below_set ?_ GE464.out | refine below_set ?_ GE465.out) | exact HB.out))))
    have n1_ := Aside0.mk (blk_below (g := gb464) (o := .cells #[.string ((rd_T26 l0 t456).f0), .int .i64 ((rd_T26 l0 t456).f1), .int .i64 ((rd_T26 l0 t456).f2), .int .i64 (wrap64 (((rd_T26 l0 t456).f3) - a3)), .int .i64 ((rd_T26 l0 t456).f4)] 26 (0, 0)) (by (with_reducible repeat (first | refine blk_drewN ?_ _ | refine blk_drew ?_ | refine blk_alloc ?_ _)); exact BK464.out) hb)
    have n2_ := Aside0.mk (blk_below (g := gb465) (o := .cells #[.string ((rd_T26 l0 t457).f0), .int .i64 ((rd_T26 l0 t457).f1), .int .i64 ((rd_T26 l0 t457).f2), .int .i64 (wrap64 (((rd_T26 l0 t457).f3) + a3)), .int .i64 ((rd_T26 l0 t457).f4)] 26 (0, 0)) (by (with_reducible repeat (first | refine blk_drewN ?_ _ | refine blk_drew ?_ | refine blk_alloc ?_ _)); exact BK465.out) hb)
    have n3_ := Aside0.mk (below_step (by repeat (first | (with_reducible first | exact HB.out | apply bA_ | apply bN_ | apply b1_ | refine below_set ?_ GE464.out | refine below_set ?_ GE465.out) | exact HB.out)) hb)
    clear BK464
    clear BK465
    clear HB
    have HO468 := n0_
    have BK464 := n1_
    have BK465 := n2_
    have HB := n3_
    clear n0_ n1_ n2_ n3_
    (try clear hb)
    (try clear hb2)
    (try clear hk)
    (try clear hi)
    (try clear ho0)
    obtain ⟨Ao62, co62, eo62⟩ := Kd.R_slice HO468.out
    (first | subst eo62 | (injection eo62 with f1_ f2_ f3_; have f4_ := f1_.symm; have f5_ := f3_.symm; clear f1_ f2_ f3_; subst f4_; subst f5_))
    refine hK.out _ _ ⟨(blk_cell BK464.out 0).trans rfl, (blk_cell BK464.out 1).trans rfl, (blk_cell BK464.out 2).trans rfl, (blk_cell BK464.out 3).trans rfl, (blk_cell BK464.out 4).trans rfl, (blk_cell BK465.out 0).trans rfl, (blk_cell BK465.out 1).trans rfl, (blk_cell BK465.out 2).trans rfl, (blk_cell BK465.out 3).trans rfl, (blk_cell BK465.out 4).trans rfl⟩ (fun hHeld => ?_)
    clear hK K
    refine norm_ (a' := ?_) ?_ ?_
    rotate_left
    · show Act.put _ (some 76) _ = _
      simp only [Act.put, List.setIfInBounds_toArray, List.set_cons_zero, List.set_cons_succ, i64_w, i32_w]
      rfl
    refine one_ (i := 6) (N := some 79) #[true, true, true, true, true, true, true, false] rfl rfl (one_of HT_.out (by kernel_rfl)) (by decide) (fun K hK => ?_)
    refine goes_ Try.func70 (by kernel_rfl) rfl #[.slice Ao62 t466.length co62, .int .i64 t457, .agg #[.string ((rd_T26 l0 t457).f0), .int .i64 ((rd_T26 l0 t457).f1), .int .i64 ((rd_T26 l0 t457).f2), .int .i64 (wrap64 (((rd_T26 l0 t457).f3) + a3)), .int .i64 ((rd_T26 l0 t457).f4)]] (by rfl) rfl rfl (by (try simp only [List.map_toArray, List.map_cons, List.map_nil]); first | done | rfl) ?_
    with_reducible refine (spec_apWith.calls _ _ t466 t457 ((rd_T26 l0 t457).f0) ((rd_T26 l0 t457).f1) ((rd_T26 l0 t457).f2) (wrap64 (((rd_T26 l0 t457).f3) + a3)) ((rd_T26 l0 t457).f4) t469 _ ?side1 ?side2 A39.out).mono ?_
    (case side1 => repeat (first | exact (Kd.R_reads' HO468.out).2.2 | (with_reducible refine Kd.C_alloc ?_ _) | (with_reducible refine Kd.C_drewN ?_ _) | (with_reducible refine Kd.C_drew ?_)))
    (case side2 => exact (Kd.R_reads' HO468.out).2.1)
    rintro e w63 ⟨v470, rfl, ho0, hb⟩
    refine ⟨_, rfl, ?_⟩
    have n0_ := Aside0.mk (Kd.R_elder' (by (with_reducible repeat (first | apply Kd.R_alloc | apply Kd.R_drewN | apply Kd.R_drew)); exact HO468.out) (Kd.R_base ho0) hb)
    have n1_ := Aside0.mk (Kd.R_lower (Kd.R_newB (Kd.R_newB (Kd.R_new' ho0 (Kd.R_lt (by (with_reducible repeat (first | apply Kd.R_alloc | apply Kd.R_drewN | apply Kd.R_drew)); exact HO468.out))) (g := gb464) (o := .cells #[.string ((rd_T26 l0 t456).f0), .int .i64 ((rd_T26 l0 t456).f1), .int .i64 ((rd_T26 l0 t456).f2), .int .i64 (wrap64 (((rd_T26 l0 t456).f3) - a3)), .int .i64 ((rd_T26 l0 t456).f4)] 26 (0, 0)) (by (with_reducible repeat (first | refine blk_drewN ?_ _ | refine blk_drew ?_ | refine blk_alloc ?_ _)); exact BK464.out)) (g := gb465) (o := .cells #[.string ((rd_T26 l0 t457).f0), .int .i64 ((rd_T26 l0 t457).f1), .int .i64 ((rd_T26 l0 t457).f2), .int .i64 (wrap64 (((rd_T26 l0 t457).f3) + a3)), .int .i64 ((rd_T26 l0 t457).f4)] 26 (0, 0)) (by (with_reducible repeat (first | refine blk_drewN ?_ _ | refine blk_drew ?_ | refine blk_alloc ?_ _)); exact BK465.out)) (below_size (by repeat (first | (with_reducible first | exact HB.out | apply bA_ | apply bN_ | apply b1_ | refine below_set ?_ GE464.out | refine below_set ?_ GE465.out) | exact HB.out))))
    have n2_ := Aside0.mk (blk_below (g := gb464) (o := .cells #[.string ((rd_T26 l0 t456).f0), .int .i64 ((rd_T26 l0 t456).f1), .int .i64 ((rd_T26 l0 t456).f2), .int .i64 (wrap64 (((rd_T26 l0 t456).f3) - a3)), .int .i64 ((rd_T26 l0 t456).f4)] 26 (0, 0)) (by (with_reducible repeat (first | refine blk_drewN ?_ _ | refine blk_drew ?_ | refine blk_alloc ?_ _)); exact BK464.out) hb)
    have n3_ := Aside0.mk (blk_below (g := gb465) (o := .cells #[.string ((rd_T26 l0 t457).f0), .int .i64 ((rd_T26 l0 t457).f1), .int .i64 ((rd_T26 l0 t457).f2), .int .i64 (wrap64 (((rd_T26 l0 t457).f3) + a3)), .int .i64 ((rd_T26 l0 t457).f4)] 26 (0, 0)) (by (with_reducible repeat (first | refine blk_drewN ?_ _ | refine blk_drew ?_ | refine blk_alloc ?_ _)); exact BK465.out) hb)
    have n4_ := Aside0.mk (below_step (by repeat (first | (with_reducible first | exact HB.out | apply bA_ | apply bN_ | apply b1_ | refine below_set ?_ GE464.out | refine below_set ?_ GE465.out) | exact HB.out)) hb)
    clear HO468
    clear BK464
    clear BK465
    clear HB
    have HO468 := n0_
    have HO471 := n1_
    have BK464 := n2_
    have BK465 := n3_
    have HB := n4_
    clear n0_ n1_ n2_ n3_ n4_
    (try clear hb)
    (try clear hb2)
    (try clear hk)
    (try clear hi)
    (try clear ho0)
    refine hK.out _ _ ⟨(blk_cell BK464.out 0).trans rfl, (blk_cell BK464.out 1).trans rfl, (blk_cell BK464.out 2).trans rfl, (blk_cell BK464.out 3).trans rfl, (blk_cell BK464.out 4).trans rfl, (blk_cell BK465.out 0).trans rfl, (blk_cell BK465.out 1).trans rfl, (blk_cell BK465.out 2).trans rfl, (blk_cell BK465.out 3).trans rfl, (blk_cell BK465.out 4).trans rfl⟩ (fun hHeld => ?_)
    clear hK K
    refine norm_ (a' := ?_) ?_ ?_
    rotate_left
    · show Act.put _ (some 79) _ = _
      simp only [Act.put, List.setIfInBounds_toArray, List.set_cons_zero, List.set_cons_succ, i64_w, i32_w]
      rfl
    refine pure_ (i := 7) (N := some 14) (v := ?_) (a' := ?_) #[true, true, true, true, true, true, true, true] rfl rfl (any_of HT_.out (by kernel_rfl)) (fun _ _ _ h => h) (Or.inl ⟨by rfl, ?_⟩) ?_ ?_
    rotate_left
    · intro w'
      go_simp
      with_reducible rfl
    rotate_left
    · simp only [Act.put, List.setIfInBounds_toArray, List.set_cons_zero, List.set_cons_succ, i64_w, i32_w]
      rfl
    refine done_ (done_of HT_.out (by kernel_rfl)) ?_
    obtain ⟨Ao64, co64, eo64⟩ := Kd.R_slice HO471.out
    subst eo64
    try go_wp2_with (first | ((with_reducible refine gate_callee (f := 62) rfl ?_); refine goesL_ (some 81) rfl rfl Try.func62 (by kernel_rfl) rfl #[.slice Ao64 t469.length co64] rfl (by (try simp only [List.map_toArray, List.map_cons, List.map_nil]); first | done | rfl) ?_; (with_reducible refine (spec_apFleet.calls kj6 _ _ t469 true _ ?side1 ?side2 A40.out).mono ?_); (case side1 => repeat (first | exact (Kd.R_reads' HO471.out).2.2 | (with_reducible refine Kd.C_alloc ?_ _) | (with_reducible refine Kd.C_drewN ?_ _) | (with_reducible refine Kd.C_drew ?_))); (case side2 => exact (Kd.R_reads' HO471.out).2.1); rintro e w65 ⟨rfl, hb⟩; refine ⟨_, rfl, ?_⟩; have n0_ := Aside0.mk (Kd.R_below (by (with_reducible repeat (first | apply Kd.R_alloc | apply Kd.R_drewN | apply Kd.R_drew)); exact HO468.out) hb); have n1_ := Aside0.mk (Kd.R_below (by (with_reducible repeat (first | apply Kd.R_alloc | apply Kd.R_drewN | apply Kd.R_drew)); exact HO471.out) hb); have n2_ := Aside0.mk (blk_below (g := gb464) (o := .cells #[.string ((rd_T26 l0 t456).f0), .int .i64 ((rd_T26 l0 t456).f1), .int .i64 ((rd_T26 l0 t456).f2), .int .i64 (wrap64 (((rd_T26 l0 t456).f3) - a3)), .int .i64 ((rd_T26 l0 t456).f4)] 26 (0, 0)) (by (with_reducible repeat (first | refine blk_drewN ?_ _ | refine blk_drew ?_ | refine blk_alloc ?_ _)); exact BK464.out) hb); have n3_ := Aside0.mk (blk_below (g := gb465) (o := .cells #[.string ((rd_T26 l0 t457).f0), .int .i64 ((rd_T26 l0 t457).f1), .int .i64 ((rd_T26 l0 t457).f2), .int .i64 (wrap64 (((rd_T26 l0 t457).f3) + a3)), .int .i64 ((rd_T26 l0 t457).f4)] 26 (0, 0)) (by (with_reducible repeat (first | refine blk_drewN ?_ _ | refine blk_drew ?_ | refine blk_alloc ?_ _)); exact BK465.out) hb); have n4_ := Aside0.mk (below_step (by repeat (first | (with_reducible first | exact HB.out | apply bA_ | apply bN_ | apply b1_ | refine below_set ?_ GE464.out | refine below_set ?_ GE465.out) | exact HB.out)) hb); clear HO468; clear HO471; clear BK464; clear BK465; clear HB; have HO468 := n0_; have HO471 := n1_; have BK464 := n2_; have BK465 := n3_; have HB := n4_; clear n0_ n1_ n2_ n3_ n4_; (try clear hb); (try clear hb2); (try clear hk); (try clear hi)))
    go_ret2
    exact ⟨_, by first | rfl | (simp [errW_none, errW_some] <;> rfl) | (simp [*, errW_none, errW_some] <;> rfl), by (with_reducible repeat (first | apply Kd.R_alloc | apply Kd.R_drewN | apply Kd.R_drew)); exact Kd.R_mono HO471.out (fun _ hk => trivial), by repeat (first | (with_reducible first | exact HB.out | apply bA_ | apply bN_ | apply b1_ | refine below_set ?_ GE464.out | refine below_set ?_ GE465.out) | exact HB.out)⟩
   subst c33
   have H1 : (some (([] : List (S26)), false)) = some (r1, r2) := by rw [if_pos rfl] at H; exact H
   clear H
   have H := H1
   clear H1
   simp only [Option.some.injEq, Prod.mk.injEq] at H
   obtain ⟨rfl, rfl⟩ := H
   go_wp2
   go_ret2
   exact ⟨_, by first | rfl | (simp [errW_none, errW_some] <;> rfl) | (simp [*, errW_none, errW_some] <;> rfl), by first | exact Kd.R_nil _ _ _ _ _ | exact Kd.N_nil _ _ _ _ _ | exact Kd.V_nil _ _ _ _ _ | exact Kd.Q_nil _ _ _ _ _ | exact Kd.S_nil _ _ _ _ _, by repeat (first | (with_reducible first | exact HB.out | apply bA_ | apply bN_ | apply b1_) | exact HB.out)⟩

end Go.Proofs.Yteinfbfaijjknaa.P
