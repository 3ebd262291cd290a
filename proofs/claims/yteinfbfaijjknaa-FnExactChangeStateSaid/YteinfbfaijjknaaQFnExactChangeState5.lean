/- Written by a program of this session (wip/p2) out of the translation: plain Lean functions, and that the calls of the Go functions come to what these say. Conditions: as each contract states. -/
import Derived.Test.YteinfbfaijjknaaQFnExactChangeState4
namespace Go.Proofs.Yteinfbfaijjknaa.P
open Go.RowKit Go.Proofs.YteinfbfaijjknaaW.PrintWords Go.Proofs.YteinfbfaijjknaaW.PrintLast Go.Proofs.YteinfbfaijjknaaW.PrintMore
attribute [local go_sem] max2_int min2_int max_two min_two max_three min_three max_four min_four   -- for this text's walks alone
set_option linter.unusedVariables false
set_option linter.unusedSimpArgs false

/-! ### laws_heldApplianceS: function 40 -/
def laws_heldApplianceS.l0 : Nat → List (S26) → Int → Int → Option (Int)
  | 0, _, _, _ => none
  | k + 1, x0, x1, x5 => if x5 < (x0.length : Int) then (if 0 ≤ x5 then ((laws_markText.f k x1).bind fun t416 => (if ((rd_T26 x0 x5).f0).toList = t416.toList then (if ((rd_T26 x0 x5).f1) = (wrap64 (x1 + 1)) then (if ((rd_T26 x0 x5).f2) = (wrap64 ((wrap64 (x1 + 1)) + 1)) then (if ((rd_T26 x0 x5).f3) = (wrap64 ((wrap64 ((wrap64 (x1 + 1)) + 1)) + 1)) then (if ((rd_T26 x0 x5).f4) = (wrap64 ((wrap64 ((wrap64 ((wrap64 (x1 + 1)) + 1)) + 1)) + 1)) then (laws_heldApplianceS.l0 k x0 (wrap64 ((wrap64 ((wrap64 ((wrap64 ((wrap64 (x1 + 1)) + 1)) + 1)) + 1)) + 1)) (wrap64 (x5 + 1))) else (some (-1))) else (some (-1))) else (some (-1))) else (some (-1))) else (some (-1)))) else (none)) else (some x1)
def laws_heldApplianceS.f (k : Nat) (l0 : List (S26)) (a1 : Int) : Option (Int) := laws_heldApplianceS.l0 k l0 a1 0
theorem laws_heldApplianceS.mono_l : ∀ k, (∀ y0 y1 y2, LeO (laws_heldApplianceS.l0 k y0 y1 y2) (laws_heldApplianceS.l0 (k + 1) y0 y1 y2))
 | 0 => fun _ _ _ r h => by simp [laws_heldApplianceS.l0] at h
 | k + 1 => by
  have ih0 := laws_heldApplianceS.mono_l k
  · intro y0 y1 y2
    unfold laws_heldApplianceS.l0
    repeat' first
    | (with_reducible exact ih0 _ _ _)
    | (with_reducible exact laws_markText.mono _ _)
    | (with_reducible exact LeO.refl _)
    | (with_reducible exact LeO.none _)
    | (with_reducible refine LeO.ite ?_ ?_)
    | (with_reducible refine LeO.bind ?_ (fun _ => ?_))
    | exact ih0 _ _ _
    | exact laws_markText.mono _ _
    | exact LeO.none _
    | refine LeO.ite ?_ ?_
    | refine LeO.bind ?_ (fun _ => ?_)
theorem laws_heldApplianceS.mono : ∀ a0 a1 k, LeO (laws_heldApplianceS.f k a0 a1) (laws_heldApplianceS.f (k + 1) a0 a1) := by
 intro a0 a1 k
 have ih0 := laws_heldApplianceS.mono_l k
 unfold laws_heldApplianceS.f
 repeat' first
  | (with_reducible exact ih0 _ _ _)
  | (with_reducible exact laws_markText.mono _ _)
  | (with_reducible exact LeO.refl _)
  | (with_reducible exact LeO.none _)
  | (with_reducible refine LeO.ite ?_ ?_)
  | (with_reducible refine LeO.bind ?_ (fun _ => ?_))
  | exact ih0 _ _ _
  | exact laws_markText.mono _ _
  | exact LeO.none _
  | refine LeO.ite ?_ ?_
  | refine LeO.bind ?_ (fun _ => ?_)
def laws_heldApplianceS.T4 : Bool × List (List Nat × List Nat) := (true, [([], []), ([], []), ([0, 1], [0, 1]), ([2], [2]), ([3], [3]), ([], []), ([5], [5]), ([4, 6], [4, 6])])
def laws_heldApplianceS.B4 : List Nat := [0, 0, 3, 7, 15, 0, 32, 127]
theorem laws_heldApplianceS.tab4 : rtab .any (opsOf Try.f40 4) = laws_heldApplianceS.T4 := by kernel_rfl
theorem laws_heldApplianceS.bits4 : waitsOk laws_heldApplianceS.T4.2 laws_heldApplianceS.B4 = true := by kernel_rfl
set_option maxHeartbeats 8000000 in
set_option maxRecDepth 100000 in
theorem laws_heldApplianceS.calls (k : Nat) (A0 : Option Addr) (c0 : Nat) (l0 : List (S26)) (a1 : Int) (r : Int) (w : World) (hr0 : Kd.C k26 w A0 l0.length l0) (hc0 : l0.length ≤ c0) (h : laws_heldApplianceS.f k l0 a1 = some r) :
  Calls Try.prog 40 #[.slice A0 l0.length c0, .int .i64 a1] w fun e w' => e = .returned (.int .i64 r) ∧ Below w.heap.size w w' := by
 have HR0 := Aside0.mk hr0
 have HC0 := Aside0.mk hc0
 clear hr0 hc0
 have HB := Aside0.mk (Below.refl w.heap.size w)
 have H : (laws_heldApplianceS.l0 k l0 a1 0) = some r := h
 clear h
 have H' := Aside0.mk H
 clear H
 go_enter Try.func40, Try.ntmps40
 go_wp2
 go_loopg [1, 5] k (fun kq v1 v5 w' => ∃ (x1_1 : Int) (x5_1 : Int), v1 = .int .i64 x1_1 ∧ v5 = .int .i64 x5_1 ∧ Aside0 (laws_heldApplianceS.l0 kq l0 x1_1 x5_1 = some r) ∧ Aside0 (kq ≤ k) ∧ Aside0 (Below w.heap.size w w'))
 case atStart => exact ⟨(a1), (0), (by first | rfl | (simp; done) | (simp [*]; done)), (by first | rfl | (simp; done) | (simp [*]; done)), H', ⟨Nat.le_refl _⟩, ⟨by repeat (first | (with_reducible first | exact HB.out | apply bA_ | apply bN_ | apply b1_) | exact HB.out)⟩⟩
 case round =>
  clear H'
  try clear p2
  obtain ⟨x1_1, x5_1, rfl, rfl, HA, HK1, HB⟩ := hrel
  cases gk with
  | zero => exact absurd HA.out (by simp [laws_heldApplianceS.l0])
  | succ k1 =>
   have H := HA.out
   clear HA
   simp only [laws_heldApplianceS.l0] at H
   by_cases c3 : x5_1 < (l0.length : Int)
   case neg =>
    rw [if_neg c3] at H
    have c3b0 : decide (x5_1 < (l0.length : Int)) = false := decide_eq_false c3
    clear c3
    obtain rfl := Option.some.inj H
    go_wp2
    go_ret
    exact ⟨by first | rfl | (simp [errW_none, errW_some] <;> rfl) | (simp [*, errW_none, errW_some] <;> rfl), by repeat (first | (with_reducible first | exact HB.out | apply bA_ | apply bN_ | apply b1_) | exact HB.out)⟩
   rw [if_pos c3] at H
   have c3b0 : decide (x5_1 < (l0.length : Int)) = true := decide_eq_true c3
   clear c3
   by_cases c4 : 0 ≤ x5_1
   case neg =>
    rw [if_neg c4] at H
    exact absurd H (by simp)
   rw [if_pos c4] at H
   have c4b0 : decide (0 ≤ x5_1) = true := decide_eq_true c4
   clear c4
   replace H := Option.bind_eq_some_iff.mp H
   obtain ⟨t416, A50, H⟩ := H
   replace H : (if ((rd_T26 l0 x5_1).f0).toList = t416.toList then (if ((rd_T26 l0 x5_1).f1) = (wrap64 (x1_1 + 1)) then (if ((rd_T26 l0 x5_1).f2) = (wrap64 ((wrap64 (x1_1 + 1)) + 1)) then (if ((rd_T26 l0 x5_1).f3) = (wrap64 ((wrap64 ((wrap64 (x1_1 + 1)) + 1)) + 1)) then (if ((rd_T26 l0 x5_1).f4) = (wrap64 ((wrap64 ((wrap64 ((wrap64 (x1_1 + 1)) + 1)) + 1)) + 1)) then (laws_heldApplianceS.l0 k1 l0 (wrap64 ((wrap64 ((wrap64 ((wrap64 ((wrap64 (x1_1 + 1)) + 1)) + 1)) + 1)) + 1)) (wrap64 (x5_1 + 1))) else (some (-1))) else (some (-1))) else (some (-1))) else (some (-1))) else (some (-1))) = some r := H
   have A5 := Aside0.mk A50
   clear A50
   by_cases c6 : ((rd_T26 l0 x5_1).f0).toList = t416.toList
   case neg =>
    rw [if_neg c6] at H
    have c6b0 : (((rd_T26 l0 x5_1).f0).toList == t416.toList) = false := beq_eq_false_iff_ne.mpr c6
    have c6b1 : (((rd_T26 l0 x5_1).f0).toList != t416.toList) = true := bne_iff_ne.mpr c6
    obtain rfl := Option.some.inj H
    try go_wp2
    have n0_ := Aside0.mk (below_drew1 HB.out)
    clear HB
    have HB := n0_
    clear n0_
    have p415 : 0 ≤ (x5_1 : Int) := of_decide_eq_true (by first|with_reducible assumption|assumption)
    have q415 : x5_1 < (l0.length : Int) := of_decide_eq_true (by first|with_reducible assumption|assumption)
    obtain ⟨ad415, e415, hx415_0, hx415_1, hx415_2, hx415_3, hx415_4⟩ := at_T26 HR0.out x5_1 p415 q415
    have hw415_4 := hx415_4
    have hw415_3 := hx415_3
    have hw415_2 := hx415_2
    have hw415_1 := hx415_1
    have hw415_0 := hx415_0
    cases e415
    replace hx415_0 := cl_ HB.out hx415_0
    replace hx415_1 := cl_ HB.out hx415_1
    replace hx415_2 := cl_ HB.out hx415_2
    replace hx415_3 := cl_ HB.out hx415_3
    replace hx415_4 := cl_ HB.out hx415_4
    replace p415 := eq_true p415
    replace q415 := eq_true q415
    refine start_ (n := 8) (S := fun w' => w'.cell? (ad415.add ((x5_1).toNat * 5)) = some (.string ((rd_T26 l0 x5_1).f0)) ∧ w'.cell? ⟨(ad415.add ((x5_1).toNat * 5)).block, (ad415.add ((x5_1).toNat * 5)).off + 1, none⟩ = some (.int .i64 ((rd_T26 l0 x5_1).f1)) ∧ w'.cell? ⟨(ad415.add ((x5_1).toNat * 5)).block, (ad415.add ((x5_1).toNat * 5)).off + 2, none⟩ = some (.int .i64 ((rd_T26 l0 x5_1).f2)) ∧ w'.cell? ⟨(ad415.add ((x5_1).toNat * 5)).block, (ad415.add ((x5_1).toNat * 5)).off + 3, none⟩ = some (.int .i64 ((rd_T26 l0 x5_1).f3)) ∧ w'.cell? ⟨(ad415.add ((x5_1).toNat * 5)).block, (ad415.add ((x5_1).toNat * 5)).off + 4, none⟩ = some (.int .i64 ((rd_T26 l0 x5_1).f4))) (ds := []) #[false, false, false, false, false, false, false, false] (by kernel_rfl) rfl rfl ⟨((HB.out.cell (World.block_lt_of_cell? w _ hw415_0)).trans hw415_0), ((HB.out.cell (World.block_lt_of_cell? w _ hw415_1)).trans hw415_1), ((HB.out.cell (World.block_lt_of_cell? w _ hw415_2)).trans hw415_2), ((HB.out.cell (World.block_lt_of_cell? w _ hw415_3)).trans hw415_3), ((HB.out.cell (World.block_lt_of_cell? w _ hw415_4)).trans hw415_4)⟩ (fun hHeld => ?_); refine with_tabW laws_heldApplianceS.tab4 laws_heldApplianceS.bits4 (fun HT_ HW_ => ?_)
    generalize wr.drew = w21 at HB hx415_0 hx415_1 hx415_2 hx415_3 hx415_4 hHeld ⊢
    refine pure_ (i := 0) (N := some 12) (v := ?_) (a' := ?_) #[true, false, false, false, false, false, false, false] rfl rfl (any_of HT_.out (by kernel_rfl)) (fun _ _ _ h => h) (Or.inl ⟨by rfl, ?_⟩) ?_ ?_
    rotate_left
    · intro w'
      go_simp
      with_reducible rfl
    rotate_left
    · simp only [Act.put, List.setIfInBounds_toArray, List.set_cons_zero, List.set_cons_succ, i64_w, i32_w]
      rfl
    refine pure_ (i := 1) (N := some 13) (v := ?_) (a' := ?_) #[true, true, false, false, false, false, false, false] rfl rfl (any_of HT_.out (by kernel_rfl)) (fun _ _ _ h => h) (Or.inl ⟨by rfl, ?_⟩) ?_ ?_
    rotate_left
    · intro w'
      go_simp
      with_reducible rfl
    rotate_left
    · simp only [Act.put, List.setIfInBounds_toArray, List.set_cons_zero, List.set_cons_succ, i64_w, i32_w]
      rfl
    refine pure_ (i := 2) (N := some 14) (v := ?_) (a' := ?_) #[true, true, true, false, false, false, false, false] rfl rfl (any_of HT_.out (by kernel_rfl)) (fun _ _ _ h => h) (Or.inl ⟨by rfl, ?_⟩) ?_ ?_
    rotate_left
    · intro w'
      go_simp
      with_reducible rfl
    rotate_left
    · simp only [Act.put, List.setIfInBounds_toArray, List.set_cons_zero, List.set_cons_succ, i64_w, i32_w]
      rfl
    refine pure_ (i := 3) (N := some 15) (v := ?_) (a' := ?_) #[true, true, true, true, false, false, false, false] rfl rfl (any_of HT_.out (by kernel_rfl)) (fun _ _ _ h => h) (Or.inl ⟨by rfl, ?_⟩) ?_ ?_
    rotate_left
    · intro w'
      go_simp
      with_reducible rfl
    rotate_left
    · simp only [Act.put, List.setIfInBounds_toArray, List.set_cons_zero, List.set_cons_succ, i64_w, i32_w]
      rfl
    refine pure_ (i := 5) (N := some 17) (v := ?_) (a' := ?_) #[true, true, true, true, false, true, false, false] rfl rfl (any_of HT_.out (by kernel_rfl)) (fun _ _ _ h => h) (Or.inl ⟨by rfl, ?_⟩) ?_ ?_
    rotate_left
    · intro w'
      go_simp
      with_reducible rfl
    rotate_left
    · simp only [Act.put, List.setIfInBounds_toArray, List.set_cons_zero, List.set_cons_succ, i64_w, i32_w]
      rfl
    refine take_ (i := 4) (N := some 16) (v := ?_) (a' := ?_) #[true, true, true, true, true, true, false, false] rfl rfl (take_ofW HT_.out HW_.out (by kernel_rfl)) (fun _ _ _ h => h) (Or.inl ⟨by rfl, ?_⟩) hHeld ?_ ?_
    rotate_left
    · rintro w' ⟨s0, s1, s2, s3, s4⟩
      go_simp
      with_reducible rfl
    rotate_left
    · simp only [Act.put, List.setIfInBounds_toArray, List.set_cons_zero, List.set_cons_succ, i64_w, i32_w]
      rfl
    refine one_ (i := 6) (N := some 18) #[true, true, true, true, true, true, true, false] rfl rfl (one_of HT_.out (by kernel_rfl)) (by decide) (fun K hK => ?_)
    refine goes_ Try.func68 (by kernel_rfl) rfl #[.int .i64 x1_1] (by rfl) rfl rfl (by (try simp only [List.map_toArray, List.map_cons, List.map_nil]); first | done | rfl) ?_
    with_reducible refine (laws_markText.calls k1 x1_1 t416 _ A5.out).mono ?_
    rintro e w22 ⟨rfl, hb⟩
    refine ⟨_, rfl, ?_⟩
    have n0_ := Aside0.mk (below_step (by repeat (first | (with_reducible first | exact HB.out | apply bA_ | apply bN_ | apply b1_) | exact HB.out)) hb)
    clear HB
    have HB := n0_
    clear n0_
    (try clear hb)
    (try clear hb2)
    (try clear hk)
    (try clear hi)
    refine hK.out _ _ ⟨((HB.out.cell (World.block_lt_of_cell? w _ hw415_0)).trans hw415_0), ((HB.out.cell (World.block_lt_of_cell? w _ hw415_1)).trans hw415_1), ((HB.out.cell (World.block_lt_of_cell? w _ hw415_2)).trans hw415_2), ((HB.out.cell (World.block_lt_of_cell? w _ hw415_3)).trans hw415_3), ((HB.out.cell (World.block_lt_of_cell? w _ hw415_4)).trans hw415_4)⟩ (fun hHeld => ?_)
    clear hK K
    refine norm_ (a' := ?_) ?_ ?_
    rotate_left
    · show Act.put _ (some 18) _ = _
      simp only [Act.put, List.setIfInBounds_toArray, List.set_cons_zero, List.set_cons_succ, i64_w, i32_w]
      rfl
    refine pure_ (i := 7) (N := some 19) (v := ?_) (a' := ?_) #[true, true, true, true, true, true, true, true] rfl rfl (any_of HT_.out (by kernel_rfl)) (fun _ _ _ h => h) (Or.inl ⟨by rfl, ?_⟩) ?_ ?_
    rotate_left
    · intro w'
      go_simp
      with_reducible rfl
    rotate_left
    · simp only [Act.put, List.setIfInBounds_toArray, List.set_cons_zero, List.set_cons_succ, i64_w, i32_w]
      rfl
    refine done_ (done_of HT_.out (by kernel_rfl)) ?_
    try go_wp2
    go_ret
    exact ⟨by first | rfl | (simp [errW_none, errW_some] <;> rfl) | (simp [*, errW_none, errW_some] <;> rfl), by repeat (first | (with_reducible first | exact HB.out | apply bA_ | apply bN_ | apply b1_) | exact HB.out)⟩
   rw [if_pos c6] at H
   have c6b0 : (((rd_T26 l0 x5_1).f0).toList == t416.toList) = true := beq_iff_eq.mpr c6
   have c6b1 : (((rd_T26 l0 x5_1).f0).toList != t416.toList) = false := bne_eq_false_iff_eq.mpr c6
   clear c6
   by_cases c7 : ((rd_T26 l0 x5_1).f1) = (wrap64 (x1_1 + 1))
   case neg =>
    rw [if_neg c7] at H
    have c7b0 : (((rd_T26 l0 x5_1).f1) == (wrap64 (x1_1 + 1))) = false := beq_eq_false_iff_ne.mpr c7
    have c7b1 : (((rd_T26 l0 x5_1).f1) != (wrap64 (x1_1 + 1))) = true := bne_iff_ne.mpr c7
    obtain rfl := Option.some.inj H
    try go_wp2
    have n0_ := Aside0.mk (below_drew1 HB.out)
    clear HB
    have HB := n0_
    clear n0_
    have p415 : 0 ≤ (x5_1 : Int) := of_decide_eq_true (by first|with_reducible assumption|assumption)
    have q415 : x5_1 < (l0.length : Int) := of_decide_eq_true (by first|with_reducible assumption|assumption)
    obtain ⟨ad415, e415, hx415_0, hx415_1, hx415_2, hx415_3, hx415_4⟩ := at_T26 HR0.out x5_1 p415 q415
    have hw415_4 := hx415_4
    have hw415_3 := hx415_3
    have hw415_2 := hx415_2
    have hw415_1 := hx415_1
    have hw415_0 := hx415_0
    cases e415
    replace hx415_0 := cl_ HB.out hx415_0
    replace hx415_1 := cl_ HB.out hx415_1
    replace hx415_2 := cl_ HB.out hx415_2
    replace hx415_3 := cl_ HB.out hx415_3
    replace hx415_4 := cl_ HB.out hx415_4
    replace p415 := eq_true p415
    replace q415 := eq_true q415
    refine start_ (n := 8) (S := fun w' => w'.cell? (ad415.add ((x5_1).toNat * 5)) = some (.string ((rd_T26 l0 x5_1).f0)) ∧ w'.cell? ⟨(ad415.add ((x5_1).toNat * 5)).block, (ad415.add ((x5_1).toNat * 5)).off + 1, none⟩ = some (.int .i64 ((rd_T26 l0 x5_1).f1)) ∧ w'.cell? ⟨(ad415.add ((x5_1).toNat * 5)).block, (ad415.add ((x5_1).toNat * 5)).off + 2, none⟩ = some (.int .i64 ((rd_T26 l0 x5_1).f2)) ∧ w'.cell? ⟨(ad415.add ((x5_1).toNat * 5)).block, (ad415.add ((x5_1).toNat * 5)).off + 3, none⟩ = some (.int .i64 ((rd_T26 l0 x5_1).f3)) ∧ w'.cell? ⟨(ad415.add ((x5_1).toNat * 5)).block, (ad415.add ((x5_1).toNat * 5)).off + 4, none⟩ = some (.int .i64 ((rd_T26 l0 x5_1).f4))) (ds := []) #[false, false, false, false, false, false, false, false] (by kernel_rfl) rfl rfl ⟨((HB.out.cell (World.block_lt_of_cell? w _ hw415_0)).trans hw415_0), ((HB.out.cell (World.block_lt_of_cell? w _ hw415_1)).trans hw415_1), ((HB.out.cell (World.block_lt_of_cell? w _ hw415_2)).trans hw415_2), ((HB.out.cell (World.block_lt_of_cell? w _ hw415_3)).trans hw415_3), ((HB.out.cell (World.block_lt_of_cell? w _ hw415_4)).trans hw415_4)⟩ (fun hHeld => ?_); refine with_tabW laws_heldApplianceS.tab4 laws_heldApplianceS.bits4 (fun HT_ HW_ => ?_)
    generalize wr.drew = w19 at HB hx415_0 hx415_1 hx415_2 hx415_3 hx415_4 hHeld ⊢
    refine pure_ (i := 0) (N := some 12) (v := ?_) (a' := ?_) #[true, false, false, false, false, false, false, false] rfl rfl (any_of HT_.out (by kernel_rfl)) (fun _ _ _ h => h) (Or.inl ⟨by rfl, ?_⟩) ?_ ?_
    rotate_left
    · intro w'
      go_simp
      with_reducible rfl
    rotate_left
    · simp only [Act.put, List.setIfInBounds_toArray, List.set_cons_zero, List.set_cons_succ, i64_w, i32_w]
      rfl
    refine pure_ (i := 1) (N := some 13) (v := ?_) (a' := ?_) #[true, true, false, false, false, false, false, false] rfl rfl (any_of HT_.out (by kernel_rfl)) (fun _ _ _ h => h) (Or.inl ⟨by rfl, ?_⟩) ?_ ?_
    rotate_left
    · intro w'
      go_simp
      with_reducible rfl
    rotate_left
    · simp only [Act.put, List.setIfInBounds_toArray, List.set_cons_zero, List.set_cons_succ, i64_w, i32_w]
      rfl
    refine pure_ (i := 2) (N := some 14) (v := ?_) (a' := ?_) #[true, true, true, false, false, false, false, false] rfl rfl (any_of HT_.out (by kernel_rfl)) (fun _ _ _ h => h) (Or.inl ⟨by rfl, ?_⟩) ?_ ?_
    rotate_left
    · intro w'
      go_simp
      with_reducible rfl
    rotate_left
    · simp only [Act.put, List.setIfInBounds_toArray, List.set_cons_zero, List.set_cons_succ, i64_w, i32_w]
      rfl
    refine pure_ (i := 3) (N := some 15) (v := ?_) (a' := ?_) #[true, true, true, true, false, false, false, false] rfl rfl (any_of HT_.out (by kernel_rfl)) (fun _ _ _ h => h) (Or.inl ⟨by rfl, ?_⟩) ?_ ?_
    rotate_left
    · intro w'
      go_simp
      with_reducible rfl
    rotate_left
    · simp only [Act.put, List.setIfInBounds_toArray, List.set_cons_zero, List.set_cons_succ, i64_w, i32_w]
      rfl
    refine pure_ (i := 5) (N := some 17) (v := ?_) (a' := ?_) #[true, true, true, true, false, true, false, false] rfl rfl (any_of HT_.out (by kernel_rfl)) (fun _ _ _ h => h) (Or.inl ⟨by rfl, ?_⟩) ?_ ?_
    rotate_left
    · intro w'
      go_simp
      with_reducible rfl
    rotate_left
    · simp only [Act.put, List.setIfInBounds_toArray, List.set_cons_zero, List.set_cons_succ, i64_w, i32_w]
      rfl
    refine take_ (i := 4) (N := some 16) (v := ?_) (a' := ?_) #[true, true, true, true, true, true, false, false] rfl rfl (take_ofW HT_.out HW_.out (by kernel_rfl)) (fun _ _ _ h => h) (Or.inl ⟨by rfl, ?_⟩) hHeld ?_ ?_
    rotate_left
    · rintro w' ⟨s0, s1, s2, s3, s4⟩
      go_simp
      with_reducible rfl
    rotate_left
    · simp only [Act.put, List.setIfInBounds_toArray, List.set_cons_zero, List.set_cons_succ, i64_w, i32_w]
      rfl
    refine one_ (i := 6) (N := some 18) #[true, true, true, true, true, true, true, false] rfl rfl (one_of HT_.out (by kernel_rfl)) (by decide) (fun K hK => ?_)
    refine goes_ Try.func68 (by kernel_rfl) rfl #[.int .i64 x1_1] (by rfl) rfl rfl (by (try simp only [List.map_toArray, List.map_cons, List.map_nil]); first | done | rfl) ?_
    with_reducible refine (laws_markText.calls k1 x1_1 t416 _ A5.out).mono ?_
    rintro e w20 ⟨rfl, hb⟩
    refine ⟨_, rfl, ?_⟩
    have n0_ := Aside0.mk (below_step (by repeat (first | (with_reducible first | exact HB.out | apply bA_ | apply bN_ | apply b1_) | exact HB.out)) hb)
    clear HB
    have HB := n0_
    clear n0_
    (try clear hb)
    (try clear hb2)
    (try clear hk)
    (try clear hi)
    refine hK.out _ _ ⟨((HB.out.cell (World.block_lt_of_cell? w _ hw415_0)).trans hw415_0), ((HB.out.cell (World.block_lt_of_cell? w _ hw415_1)).trans hw415_1), ((HB.out.cell (World.block_lt_of_cell? w _ hw415_2)).trans hw415_2), ((HB.out.cell (World.block_lt_of_cell? w _ hw415_3)).trans hw415_3), ((HB.out.cell (World.block_lt_of_cell? w _ hw415_4)).trans hw415_4)⟩ (fun hHeld => ?_)
    clear hK K
    refine norm_ (a' := ?_) ?_ ?_
    rotate_left
    · show Act.put _ (some 18) _ = _
      simp only [Act.put, List.setIfInBounds_toArray, List.set_cons_zero, List.set_cons_succ, i64_w, i32_w]
      rfl
    refine pure_ (i := 7) (N := some 19) (v := ?_) (a' := ?_) #[true, true, true, true, true, true, true, true] rfl rfl (any_of HT_.out (by kernel_rfl)) (fun _ _ _ h => h) (Or.inl ⟨by rfl, ?_⟩) ?_ ?_
    rotate_left
    · intro w'
      go_simp
      with_reducible rfl
    rotate_left
    · simp only [Act.put, List.setIfInBounds_toArray, List.set_cons_zero, List.set_cons_succ, i64_w, i32_w]
      rfl
    refine done_ (done_of HT_.out (by kernel_rfl)) ?_
    have p417 : 0 ≤ (x5_1 : Int) := of_decide_eq_true (by first|with_reducible assumption|assumption)
    have q417 : x5_1 < (l0.length : Int) := of_decide_eq_true (by first|with_reducible assumption|assumption)
    obtain ⟨ad417, e417, hx417_0, hx417_1, hx417_2, hx417_3, hx417_4⟩ := at_T26 HR0.out x5_1 p417 q417
    obtain rfl : ad415 = ad417 := (by injection e417)
    replace hx417_0 := cl_ HB.out hx417_0
    replace hx417_1 := cl_ HB.out hx417_1
    replace hx417_2 := cl_ HB.out hx417_2
    replace hx417_3 := cl_ HB.out hx417_3
    replace hx417_4 := cl_ HB.out hx417_4
    replace p417 := eq_true p417
    replace q417 := eq_true q417
    try go_wp2
    go_ret
    exact ⟨by first | rfl | (simp [errW_none, errW_some] <;> rfl) | (simp [*, errW_none, errW_some] <;> rfl), by repeat (first | (with_reducible first | exact HB.out | apply bA_ | apply bN_ | apply b1_) | exact HB.out)⟩
   rw [if_pos c7] at H
   have c7b0 : (((rd_T26 l0 x5_1).f1) == (wrap64 (x1_1 + 1))) = true := beq_iff_eq.mpr c7
   have c7b1 : (((rd_T26 l0 x5_1).f1) != (wrap64 (x1_1 + 1))) = false := bne_eq_false_iff_eq.mpr c7
   clear c7
   by_cases c8 : ((rd_T26 l0 x5_1).f2) = (wrap64 ((wrap64 (x1_1 + 1)) + 1))
   case neg =>
    rw [if_neg c8] at H
    have c8b0 : (((rd_T26 l0 x5_1).f2) == (wrap64 ((wrap64 (x1_1 + 1)) + 1))) = false := beq_eq_false_iff_ne.mpr c8
    have c8b1 : (((rd_T26 l0 x5_1).f2) != (wrap64 ((wrap64 (x1_1 + 1)) + 1))) = true := bne_iff_ne.mpr c8
    obtain rfl := Option.some.inj H
    try go_wp2
    have n0_ := Aside0.mk (below_drew1 HB.out)
    clear HB
    have HB := n0_
    clear n0_
    have p415 : 0 ≤ (x5_1 : Int) := of_decide_eq_true (by first|with_reducible assumption|assumption)
    have q415 : x5_1 < (l0.length : Int) := of_decide_eq_true (by first|with_reducible assumption|assumption)
    obtain ⟨ad415, e415, hx415_0, hx415_1, hx415_2, hx415_3, hx415_4⟩ := at_T26 HR0.out x5_1 p415 q415
    have hw415_4 := hx415_4
    have hw415_3 := hx415_3
    have hw415_2 := hx415_2
    have hw415_1 := hx415_1
    have hw415_0 := hx415_0
    cases e415
    replace hx415_0 := cl_ HB.out hx415_0
    replace hx415_1 := cl_ HB.out hx415_1
    replace hx415_2 := cl_ HB.out hx415_2
    replace hx415_3 := cl_ HB.out hx415_3
    replace hx415_4 := cl_ HB.out hx415_4
    replace p415 := eq_true p415
    replace q415 := eq_true q415
    refine start_ (n := 8) (S := fun w' => w'.cell? (ad415.add ((x5_1).toNat * 5)) = some (.string ((rd_T26 l0 x5_1).f0)) ∧ w'.cell? ⟨(ad415.add ((x5_1).toNat * 5)).block, (ad415.add ((x5_1).toNat * 5)).off + 1, none⟩ = some (.int .i64 ((rd_T26 l0 x5_1).f1)) ∧ w'.cell? ⟨(ad415.add ((x5_1).toNat * 5)).block, (ad415.add ((x5_1).toNat * 5)).off + 2, none⟩ = some (.int .i64 ((rd_T26 l0 x5_1).f2)) ∧ w'.cell? ⟨(ad415.add ((x5_1).toNat * 5)).block, (ad415.add ((x5_1).toNat * 5)).off + 3, none⟩ = some (.int .i64 ((rd_T26 l0 x5_1).f3)) ∧ w'.cell? ⟨(ad415.add ((x5_1).toNat * 5)).block, (ad415.add ((x5_1).toNat * 5)).off + 4, none⟩ = some (.int .i64 ((rd_T26 l0 x5_1).f4))) (ds := []) #[false, false, false, false, false, false, false, false] (by kernel_rfl) rfl rfl ⟨((HB.out.cell (World.block_lt_of_cell? w _ hw415_0)).trans hw415_0), ((HB.out.cell (World.block_lt_of_cell? w _ hw415_1)).trans hw415_1), ((HB.out.cell (World.block_lt_of_cell? w _ hw415_2)).trans hw415_2), ((HB.out.cell (World.block_lt_of_cell? w _ hw415_3)).trans hw415_3), ((HB.out.cell (World.block_lt_of_cell? w _ hw415_4)).trans hw415_4)⟩ (fun hHeld => ?_); refine with_tabW laws_heldApplianceS.tab4 laws_heldApplianceS.bits4 (fun HT_ HW_ => ?_)
    generalize wr.drew = w17 at HB hx415_0 hx415_1 hx415_2 hx415_3 hx415_4 hHeld ⊢
    refine pure_ (i := 0) (N := some 12) (v := ?_) (a' := ?_) #[true, false, false, false, false, false, false, false] rfl rfl (any_of HT_.out (by kernel_rfl)) (fun _ _ _ h => h) (Or.inl ⟨by rfl, ?_⟩) ?_ ?_
    rotate_left
    · intro w'
      go_simp
      with_reducible rfl
    rotate_left
    · simp only [Act.put, List.setIfInBounds_toArray, List.set_cons_zero, List.set_cons_succ, i64_w, i32_w]
      rfl
    refine pure_ (i := 1) (N := some 13) (v := ?_) (a' := ?_) #[true, true, false, false, false, false, false, false] rfl rfl (any_of HT_.out (by kernel_rfl)) (fun _ _ _ h => h) (Or.inl ⟨by rfl, ?_⟩) ?_ ?_
    rotate_left
    · intro w'
      go_simp
      with_reducible rfl
    rotate_left
    · simp only [Act.put, List.setIfInBounds_toArray, List.set_cons_zero, List.set_cons_succ, i64_w, i32_w]
      rfl
    refine pure_ (i := 2) (N := some 14) (v := ?_) (a' := ?_) #[true, true, true, false, false, false, false, false] rfl rfl (any_of HT_.out (by kernel_rfl)) (fun _ _ _ h => h) (Or.inl ⟨by rfl, ?_⟩) ?_ ?_
    rotate_left
    · intro w'
      go_simp
      with_reducible rfl
    rotate_left
    · simp only [Act.put, List.setIfInBounds_toArray, List.set_cons_zero, List.set_cons_succ, i64_w, i32_w]
      rfl
    refine pure_ (i := 3) (N := some 15) (v := ?_) (a' := ?_) #[true, true, true, true, false, false, false, false] rfl rfl (any_of HT_.out (by kernel_rfl)) (fun _ _ _ h => h) (Or.inl ⟨by rfl, ?_⟩) ?_ ?_
    rotate_left
    · intro w'
      go_simp
      with_reducible rfl
    rotate_left
    · simp only [Act.put, List.setIfInBounds_toArray, List.set_cons_zero, List.set_cons_succ, i64_w, i32_w]
      rfl
    refine pure_ (i := 5) (N := some 17) (v := ?_) (a' := ?_) #[true, true, true, true, false, true, false, false] rfl rfl (any_of HT_.out (by kernel_rfl)) (fun _ _ _ h => h) (Or.inl ⟨by rfl, ?_⟩) ?_ ?_
    rotate_left
    · intro w'
      go_simp
      with_reducible rfl
    rotate_left
    · simp only [Act.put, List.setIfInBounds_toArray, List.set_cons_zero, List.set_cons_succ, i64_w, i32_w]
      rfl
    refine take_ (i := 4) (N := some 16) (v := ?_) (a' := ?_) #[true, true, true, true, true, true, false, false] rfl rfl (take_ofW HT_.out HW_.out (by kernel_rfl)) (fun _ _ _ h => h) (Or.inl ⟨by rfl, ?_⟩) hHeld ?_ ?_
    rotate_left
    · rintro w' ⟨s0, s1, s2, s3, s4⟩
      go_simp
      with_reducible rfl
    rotate_left
    · simp only [Act.put, List.setIfInBounds_toArray, List.set_cons_zero, List.set_cons_succ, i64_w, i32_w]
      rfl
    refine one_ (i := 6) (N := some 18) #[true, true, true, true, true, true, true, false] rfl rfl (one_of HT_.out (by kernel_rfl)) (by decide) (fun K hK => ?_)
    refine goes_ Try.func68 (by kernel_rfl) rfl #[.int .i64 x1_1] (by rfl) rfl rfl (by (try simp only [List.map_toArray, List.map_cons, List.map_nil]); first | done | rfl) ?_
    with_reducible refine (laws_markText.calls k1 x1_1 t416 _ A5.out).mono ?_
    rintro e w18 ⟨rfl, hb⟩
    refine ⟨_, rfl, ?_⟩
    have n0_ := Aside0.mk (below_step (by repeat (first | (with_reducible first | exact HB.out | apply bA_ | apply bN_ | apply b1_) | exact HB.out)) hb)
    clear HB
    have HB := n0_
    clear n0_
    (try clear hb)
    (try clear hb2)
    (try clear hk)
    (try clear hi)
    refine hK.out _ _ ⟨((HB.out.cell (World.block_lt_of_cell? w _ hw415_0)).trans hw415_0), ((HB.out.cell (World.block_lt_of_cell? w _ hw415_1)).trans hw415_1), ((HB.out.cell (World.block_lt_of_cell? w _ hw415_2)).trans hw415_2), ((HB.out.cell (World.block_lt_of_cell? w _ hw415_3)).trans hw415_3), ((HB.out.cell (World.block_lt_of_cell? w _ hw415_4)).trans hw415_4)⟩ (fun hHeld => ?_)
    clear hK K
    refine norm_ (a' := ?_) ?_ ?_
    rotate_left
    · show Act.put _ (some 18) _ = _
      simp only [Act.put, List.setIfInBounds_toArray, List.set_cons_zero, List.set_cons_succ, i64_w, i32_w]
      rfl
    refine pure_ (i := 7) (N := some 19) (v := ?_) (a' := ?_) #[true, true, true, true, true, true, true, true] rfl rfl (any_of HT_.out (by kernel_rfl)) (fun _ _ _ h => h) (Or.inl ⟨by rfl, ?_⟩) ?_ ?_
    rotate_left
    · intro w'
      go_simp
      with_reducible rfl
    rotate_left
    · simp only [Act.put, List.setIfInBounds_toArray, List.set_cons_zero, List.set_cons_succ, i64_w, i32_w]
      rfl
    refine done_ (done_of HT_.out (by kernel_rfl)) ?_
    have p417 : 0 ≤ (x5_1 : Int) := of_decide_eq_true (by first|with_reducible assumption|assumption)
    have q417 : x5_1 < (l0.length : Int) := of_decide_eq_true (by first|with_reducible assumption|assumption)
    obtain ⟨ad417, e417, hx417_0, hx417_1, hx417_2, hx417_3, hx417_4⟩ := at_T26 HR0.out x5_1 p417 q417
    obtain rfl : ad415 = ad417 := (by injection e417)
    replace hx417_0 := cl_ HB.out hx417_0
    replace hx417_1 := cl_ HB.out hx417_1
    replace hx417_2 := cl_ HB.out hx417_2
    replace hx417_3 := cl_ HB.out hx417_3
    replace hx417_4 := cl_ HB.out hx417_4
    replace p417 := eq_true p417
    replace q417 := eq_true q417
    have p418 : 0 ≤ (x5_1 : Int) := of_decide_eq_true (by first|with_reducible assumption|assumption)
    have q418 : x5_1 < (l0.length : Int) := of_decide_eq_true (by first|with_reducible assumption|assumption)
    obtain ⟨ad418, e418, hx418_0, hx418_1, hx418_2, hx418_3, hx418_4⟩ := at_T26 HR0.out x5_1 p418 q418
    obtain rfl : ad415 = ad418 := (by injection e418)
    replace hx418_0 := cl_ HB.out hx418_0
    replace hx418_1 := cl_ HB.out hx418_1
    replace hx418_2 := cl_ HB.out hx418_2
    replace hx418_3 := cl_ HB.out hx418_3
    replace hx418_4 := cl_ HB.out hx418_4
    replace p418 := eq_true p418
    replace q418 := eq_true q418
    try go_wp2
    go_ret
    exact ⟨by first | rfl | (simp [errW_none, errW_some] <;> rfl) | (simp [*, errW_none, errW_some] <;> rfl), by repeat (first | (with_reducible first | exact HB.out | apply bA_ | apply bN_ | apply b1_) | exact HB.out)⟩
   rw [if_pos c8] at H
   have c8b0 : (((rd_T26 l0 x5_1).f2) == (wrap64 ((wrap64 (x1_1 + 1)) + 1))) = true := beq_iff_eq.mpr c8
   have c8b1 : (((rd_T26 l0 x5_1).f2) != (wrap64 ((wrap64 (x1_1 + 1)) + 1))) = false := bne_eq_false_iff_eq.mpr c8
   clear c8
   by_cases c9 : ((rd_T26 l0 x5_1).f3) = (wrap64 ((wrap64 ((wrap64 (x1_1 + 1)) + 1)) + 1))
   case neg =>
    rw [if_neg c9] at H
    have c9b0 : (((rd_T26 l0 x5_1).f3) == (wrap64 ((wrap64 ((wrap64 (x1_1 + 1)) + 1)) + 1))) = false := beq_eq_false_iff_ne.mpr c9
    have c9b1 : (((rd_T26 l0 x5_1).f3) != (wrap64 ((wrap64 ((wrap64 (x1_1 + 1)) + 1)) + 1))) = true := bne_iff_ne.mpr c9
    obtain rfl := Option.some.inj H
    try go_wp2
    have n0_ := Aside0.mk (below_drew1 HB.out)
    clear HB
    have HB := n0_
    clear n0_
    have p415 : 0 ≤ (x5_1 : Int) := of_decide_eq_true (by first|with_reducible assumption|assumption)
    have q415 : x5_1 < (l0.length : Int) := of_decide_eq_true (by first|with_reducible assumption|assumption)
    obtain ⟨ad415, e415, hx415_0, hx415_1, hx415_2, hx415_3, hx415_4⟩ := at_T26 HR0.out x5_1 p415 q415
    have hw415_4 := hx415_4
    have hw415_3 := hx415_3
    have hw415_2 := hx415_2
    have hw415_1 := hx415_1
    have hw415_0 := hx415_0
    cases e415
    replace hx415_0 := cl_ HB.out hx415_0
    replace hx415_1 := cl_ HB.out hx415_1
    replace hx415_2 := cl_ HB.out hx415_2
    replace hx415_3 := cl_ HB.out hx415_3
    replace hx415_4 := cl_ HB.out hx415_4
    replace p415 := eq_true p415
    replace q415 := eq_true q415
    refine start_ (n := 8) (S := fun w' => w'.cell? (ad415.add ((x5_1).toNat * 5)) = some (.string ((rd_T26 l0 x5_1).f0)) ∧ w'.cell? ⟨(ad415.add ((x5_1).toNat * 5)).block, (ad415.add ((x5_1).toNat * 5)).off + 1, none⟩ = some (.int .i64 ((rd_T26 l0 x5_1).f1)) ∧ w'.cell? ⟨(ad415.add ((x5_1).toNat * 5)).block, (ad415.add ((x5_1).toNat * 5)).off + 2, none⟩ = some (.int .i64 ((rd_T26 l0 x5_1).f2)) ∧ w'.cell? ⟨(ad415.add ((x5_1).toNat * 5)).block, (ad415.add ((x5_1).toNat * 5)).off + 3, none⟩ = some (.int .i64 ((rd_T26 l0 x5_1).f3)) ∧ w'.cell? ⟨(ad415.add ((x5_1).toNat * 5)).block, (ad415.add ((x5_1).toNat * 5)).off + 4, none⟩ = some (.int .i64 ((rd_T26 l0 x5_1).f4))) (ds := []) #[false, false, false, false, false, false, false, false] (by kernel_rfl) rfl rfl ⟨((HB.out.cell (World.block_lt_of_cell? w _ hw415_0)).trans hw415_0), ((HB.out.cell (World.block_lt_of_cell? w _ hw415_1)).trans hw415_1), ((HB.out.cell (World.block_lt_of_cell? w _ hw415_2)).trans hw415_2), ((HB.out.cell (World.block_lt_of_cell? w _ hw415_3)).trans hw415_3), ((HB.out.cell (World.block_lt_of_cell? w _ hw415_4)).trans hw415_4)⟩ (fun hHeld => ?_); refine with_tabW laws_heldApplianceS.tab4 laws_heldApplianceS.bits4 (fun HT_ HW_ => ?_)
    generalize wr.drew = w15 at HB hx415_0 hx415_1 hx415_2 hx415_3 hx415_4 hHeld ⊢
    refine pure_ (i := 0) (N := some 12) (v := ?_) (a' := ?_) #[true, false, false, false, false, false, false, false] rfl rfl (any_of HT_.out (by kernel_rfl)) (fun _ _ _ h => h) (Or.inl ⟨by rfl, ?_⟩) ?_ ?_
    rotate_left
    · intro w'
      go_simp
      with_reducible rfl
    rotate_left
    · simp only [Act.put, List.setIfInBounds_toArray, List.set_cons_zero, List.set_cons_succ, i64_w, i32_w]
      rfl
    refine pure_ (i := 1) (N := some 13) (v := ?_) (a' := ?_) #[true, true, false, false, false, false, false, false] rfl rfl (any_of HT_.out (by kernel_rfl)) (fun _ _ _ h => h) (Or.inl ⟨by rfl, ?_⟩) ?_ ?_
    rotate_left
    · intro w'
      go_simp
      with_reducible rfl
    rotate_left
    · simp only [Act.put, List.setIfInBounds_toArray, List.set_cons_zero, List.set_cons_succ, i64_w, i32_w]
      rfl
    refine pure_ (i := 2) (N := some 14) (v := ?_) (a' := ?_) #[true, true, true, false, false, false, false, false] rfl rfl (any_of HT_.out (by kernel_rfl)) (fun _ _ _ h => h) (Or.inl ⟨by rfl, ?_⟩) ?_ ?_
    rotate_left
    · intro w'
      go_simp
      with_reducible rfl
    rotate_left
    · simp only [Act.put, List.setIfInBounds_toArray, List.set_cons_zero, List.set_cons_succ, i64_w, i32_w]
      rfl
    refine pure_ (i := 3) (N := some 15) (v := ?_) (a' := ?_) #[true, true, true, true, false, false, false, false] rfl rfl (any_of HT_.out (by kernel_rfl)) (fun _ _ _ h => h) (Or.inl ⟨by rfl, ?_⟩) ?_ ?_
    rotate_left
    · intro w'
      go_simp
      with_reducible rfl
    rotate_left
    · simp only [Act.put, List.setIfInBounds_toArray, List.set_cons_zero, List.set_cons_succ, i64_w, i32_w]
      rfl
    refine pure_ (i := 5) (N := some 17) (v := ?_) (a' := ?_) #[true, true, true, true, false, true, false, false] rfl rfl (any_of HT_.out (by kernel_rfl)) (fun _ _ _ h => h) (Or.inl ⟨by rfl, ?_⟩) ?_ ?_
    rotate_left
    · intro w'
      go_simp
      with_reducible rfl
    rotate_left
    · simp only [Act.put, List.setIfInBounds_toArray, List.set_cons_zero, List.set_cons_succ, i64_w, i32_w]
      rfl
    refine take_ (i := 4) (N := some 16) (v := ?_) (a' := ?_) #[true, true, true, true, true, true, false, false] rfl rfl (take_ofW HT_.out HW_.out (by kernel_rfl)) (fun _ _ _ h => h) (Or.inl ⟨by rfl, ?_⟩) hHeld ?_ ?_
    rotate_left
    · rintro w' ⟨s0, s1, s2, s3, s4⟩
      go_simp
      with_reducible rfl
    rotate_left
    · simp only [Act.put, List.setIfInBounds_toArray, List.set_cons_zero, List.set_cons_succ, i64_w, i32_w]
      rfl
    refine one_ (i := 6) (N := some 18) #[true, true, true, true, true, true, true, false] rfl rfl (one_of HT_.out (by kernel_rfl)) (by decide) (fun K hK => ?_)
    refine goes_ Try.func68 (by kernel_rfl) rfl #[.int .i64 x1_1] (by rfl) rfl rfl (by (try simp only [List.map_toArray, List.map_cons, List.map_nil]); first | done | rfl) ?_
    with_reducible refine (laws_markText.calls k1 x1_1 t416 _ A5.out).mono ?_
    rintro e w16 ⟨rfl, hb⟩
    refine ⟨_, rfl, ?_⟩
    have n0_ := Aside0.mk (below_step (by repeat (first | (with_reducible first | exact HB.out | apply bA_ | apply bN_ | apply b1_) | exact HB.out)) hb)
    clear HB
    have HB := n0_
    clear n0_
    (try clear hb)
    (try clear hb2)
    (try clear hk)
    (try clear hi)
    refine hK.out _ _ ⟨((HB.out.cell (World.block_lt_of_cell? w _ hw415_0)).trans hw415_0), ((HB.out.cell (World.block_lt_of_cell? w _ hw415_1)).trans hw415_1), ((HB.out.cell (World.block_lt_of_cell? w _ hw415_2)).trans hw415_2), ((HB.out.cell (World.block_lt_of_cell? w _ hw415_3)).trans hw415_3), ((HB.out.cell (World.block_lt_of_cell? w _ hw415_4)).trans hw415_4)⟩ (fun hHeld => ?_)
    clear hK K
    refine norm_ (a' := ?_) ?_ ?_
    rotate_left
    · show Act.put _ (some 18) _ = _
      simp only [Act.put, List.setIfInBounds_toArray, List.set_cons_zero, List.set_cons_succ, i64_w, i32_w]
      rfl
    refine pure_ (i := 7) (N := some 19) (v := ?_) (a' := ?_) #[true, true, true, true, true, true, true, true] rfl rfl (any_of HT_.out (by kernel_rfl)) (fun _ _ _ h => h) (Or.inl ⟨by rfl, ?_⟩) ?_ ?_
    rotate_left
    · intro w'
      go_simp
      with_reducible rfl
    rotate_left
    · simp only [Act.put, List.setIfInBounds_toArray, List.set_cons_zero, List.set_cons_succ, i64_w, i32_w]
      rfl
    refine done_ (done_of HT_.out (by kernel_rfl)) ?_
    have p417 : 0 ≤ (x5_1 : Int) := of_decide_eq_true (by first|with_reducible assumption|assumption)
    have q417 : x5_1 < (l0.length : Int) := of_decide_eq_true (by first|with_reducible assumption|assumption)
    obtain ⟨ad417, e417, hx417_0, hx417_1, hx417_2, hx417_3, hx417_4⟩ := at_T26 HR0.out x5_1 p417 q417
    obtain rfl : ad415 = ad417 := (by injection e417)
    replace hx417_0 := cl_ HB.out hx417_0
    replace hx417_1 := cl_ HB.out hx417_1
    replace hx417_2 := cl_ HB.out hx417_2
    replace hx417_3 := cl_ HB.out hx417_3
    replace hx417_4 := cl_ HB.out hx417_4
    replace p417 := eq_true p417
    replace q417 := eq_true q417
    have p418 : 0 ≤ (x5_1 : Int) := of_decide_eq_true (by first|with_reducible assumption|assumption)
    have q418 : x5_1 < (l0.length : Int) := of_decide_eq_true (by first|with_reducible assumption|assumption)
    obtain ⟨ad418, e418, hx418_0, hx418_1, hx418_2, hx418_3, hx418_4⟩ := at_T26 HR0.out x5_1 p418 q418
    obtain rfl : ad415 = ad418 := (by injection e418)
    replace hx418_0 := cl_ HB.out hx418_0
    replace hx418_1 := cl_ HB.out hx418_1
    replace hx418_2 := cl_ HB.out hx418_2
    replace hx418_3 := cl_ HB.out hx418_3
    replace hx418_4 := cl_ HB.out hx418_4
    replace p418 := eq_true p418
    replace q418 := eq_true q418
    have p419 : 0 ≤ (x5_1 : Int) := of_decide_eq_true (by first|with_reducible assumption|assumption)
    have q419 : x5_1 < (l0.length : Int) := of_decide_eq_true (by first|with_reducible assumption|assumption)
    obtain ⟨ad419, e419, hx419_0, hx419_1, hx419_2, hx419_3, hx419_4⟩ := at_T26 HR0.out x5_1 p419 q419
    obtain rfl : ad415 = ad419 := (by injection e419)
    replace hx419_0 := cl_ HB.out hx419_0
    replace hx419_1 := cl_ HB.out hx419_1
    replace hx419_2 := cl_ HB.out hx419_2
    replace hx419_3 := cl_ HB.out hx419_3
    replace hx419_4 := cl_ HB.out hx419_4
    replace p419 := eq_true p419
    replace q419 := eq_true q419
    try go_wp2
    go_ret
    exact ⟨by first | rfl | (simp [errW_none, errW_some] <;> rfl) | (simp [*, errW_none, errW_some] <;> rfl), by repeat (first | (with_reducible first | exact HB.out | apply bA_ | apply bN_ | apply b1_) | exact HB.out)⟩
   rw [if_pos c9] at H
   have c9b0 : (((rd_T26 l0 x5_1).f3) == (wrap64 ((wrap64 ((wrap64 (x1_1 + 1)) + 1)) + 1))) = true := beq_iff_eq.mpr c9
   have c9b1 : (((rd_T26 l0 x5_1).f3) != (wrap64 ((wrap64 ((wrap64 (x1_1 + 1)) + 1)) + 1))) = false := bne_eq_false_iff_eq.mpr c9
   clear c9
   by_cases c10 : ((rd_T26 l0 x5_1).f4) = (wrap64 ((wrap64 ((wrap64 ((wrap64 (x1_1 + 1)) + 1)) + 1)) + 1))
   case neg =>
    rw [if_neg c10] at H
    have c10b0 : (((rd_T26 l0 x5_1).f4) == (wrap64 ((wrap64 ((wrap64 ((wrap64 (x1_1 + 1)) + 1)) + 1)) + 1))) = false := beq_eq_false_iff_ne.mpr c10
    have c10b1 : (((rd_T26 l0 x5_1).f4) != (wrap64 ((wrap64 ((wrap64 ((wrap64 (x1_1 + 1)) + 1)) + 1)) + 1))) = true := bne_iff_ne.mpr c10
    obtain rfl := Option.some.inj H
    try go_wp2
    have n0_ := Aside0.mk (below_drew1 HB.out)
    clear HB
    have HB := n0_
    clear n0_
    have p415 : 0 ≤ (x5_1 : Int) := of_decide_eq_true (by first|with_reducible assumption|assumption)
    have q415 : x5_1 < (l0.length : Int) := of_decide_eq_true (by first|with_reducible assumption|assumption)
    obtain ⟨ad415, e415, hx415_0, hx415_1, hx415_2, hx415_3, hx415_4⟩ := at_T26 HR0.out x5_1 p415 q415
    have hw415_4 := hx415_4
    have hw415_3 := hx415_3
    have hw415_2 := hx415_2
    have hw415_1 := hx415_1
    have hw415_0 := hx415_0
    cases e415
    replace hx415_0 := cl_ HB.out hx415_0
    replace hx415_1 := cl_ HB.out hx415_1
    replace hx415_2 := cl_ HB.out hx415_2
    replace hx415_3 := cl_ HB.out hx415_3
    replace hx415_4 := cl_ HB.out hx415_4
    replace p415 := eq_true p415
    replace q415 := eq_true q415
    refine start_ (n := 8) (S := fun w' => w'.cell? (ad415.add ((x5_1).toNat * 5)) = some (.string ((rd_T26 l0 x5_1).f0)) ∧ w'.cell? ⟨(ad415.add ((x5_1).toNat * 5)).block, (ad415.add ((x5_1).toNat * 5)).off + 1, none⟩ = some (.int .i64 ((rd_T26 l0 x5_1).f1)) ∧ w'.cell? ⟨(ad415.add ((x5_1).toNat * 5)).block, (ad415.add ((x5_1).toNat * 5)).off + 2, none⟩ = some (.int .i64 ((rd_T26 l0 x5_1).f2)) ∧ w'.cell? ⟨(ad415.add ((x5_1).toNat * 5)).block, (ad415.add ((x5_1).toNat * 5)).off + 3, none⟩ = some (.int .i64 ((rd_T26 l0 x5_1).f3)) ∧ w'.cell? ⟨(ad415.add ((x5_1).toNat * 5)).block, (ad415.add ((x5_1).toNat * 5)).off + 4, none⟩ = some (.int .i64 ((rd_T26 l0 x5_1).f4))) (ds := []) #[false, false, false, false, false, false, false, false] (by kernel_rfl) rfl rfl ⟨((HB.out.cell (World.block_lt_of_cell? w _ hw415_0)).trans hw415_0), ((HB.out.cell (World.block_lt_of_cell? w _ hw415_1)).trans hw415_1), ((HB.out.cell (World.block_lt_of_cell? w _ hw415_2)).trans hw415_2), ((HB.out.cell (World.block_lt_of_cell? w _ hw415_3)).trans hw415_3), ((HB.out.cell (World.block_lt_of_cell? w _ hw415_4)).trans hw415_4)⟩ (fun hHeld => ?_); refine with_tabW laws_heldApplianceS.tab4 laws_heldApplianceS.bits4 (fun HT_ HW_ => ?_)
    generalize wr.drew = w13 at HB hx415_0 hx415_1 hx415_2 hx415_3 hx415_4 hHeld ⊢
    refine pure_ (i := 0) (N := some 12) (v := ?_) (a' := ?_) #[true, false, false, false, false, false, false, false] rfl rfl (any_of HT_.out (by kernel_rfl)) (fun _ _ _ h => h) (Or.inl ⟨by rfl, ?_⟩) ?_ ?_
    rotate_left
    · intro w'
      go_simp
      with_reducible rfl
    rotate_left
    · simp only [Act.put, List.setIfInBounds_toArray, List.set_cons_zero, List.set_cons_succ, i64_w, i32_w]
      rfl
    refine pure_ (i := 1) (N := some 13) (v := ?_) (a' := ?_) #[true, true, false, false, false, false, false, false] rfl rfl (any_of HT_.out (by kernel_rfl)) (fun _ _ _ h => h) (Or.inl ⟨by rfl, ?_⟩) ?_ ?_
    rotate_left
    · intro w'
      go_simp
      with_reducible rfl
    rotate_left
    · simp only [Act.put, List.setIfInBounds_toArray, List.set_cons_zero, List.set_cons_succ, i64_w, i32_w]
      rfl
    refine pure_ (i := 2) (N := some 14) (v := ?_) (a' := ?_) #[true, true, true, false, false, false, false, false] rfl rfl (any_of HT_.out (by kernel_rfl)) (fun _ _ _ h => h) (Or.inl ⟨by rfl, ?_⟩) ?_ ?_
    rotate_left
    · intro w'
      go_simp
      with_reducible rfl
    rotate_left
    · simp only [Act.put, List.setIfInBounds_toArray, List.set_cons_zero, List.set_cons_succ, i64_w, i32_w]
      rfl
    refine pure_ (i := 3) (N := some 15) (v := ?_) (a' := ?_) #[true, true, true, true, false, false, false, false] rfl rfl (any_of HT_.out (by kernel_rfl)) (fun _ _ _ h => h) (Or.inl ⟨by rfl, ?_⟩) ?_ ?_
    rotate_left
    · intro w'
      go_simp
      with_reducible rfl
    rotate_left
    · simp only [Act.put, List.setIfInBounds_toArray, List.set_cons_zero, List.set_cons_succ, i64_w, i32_w]
      rfl
    refine pure_ (i := 5) (N := some 17) (v := ?_) (a' := ?_) #[true, true, true, true, false, true, false, false] rfl rfl (any_of HT_.out (by kernel_rfl)) (fun _ _ _ h => h) (Or.inl ⟨by rfl, ?_⟩) ?_ ?_
    rotate_left
    · intro w'
      go_simp
      with_reducible rfl
    rotate_left
    · simp only [Act.put, List.setIfInBounds_toArray, List.set_cons_zero, List.set_cons_succ, i64_w, i32_w]
      rfl
    refine take_ (i := 4) (N := some 16) (v := ?_) (a' := ?_) #[true, true, true, true, true, true, false, false] rfl rfl (take_ofW HT_.out HW_.out (by kernel_rfl)) (fun _ _ _ h => h) (Or.inl ⟨by rfl, ?_⟩) hHeld ?_ ?_
    rotate_left
    · rintro w' ⟨s0, s1, s2, s3, s4⟩
      go_simp
      with_reducible rfl
    rotate_left
    · simp only [Act.put, List.setIfInBounds_toArray, List.set_cons_zero, List.set_cons_succ, i64_w, i32_w]
      rfl
    refine one_ (i := 6) (N := some 18) #[true, true, true, true, true, true, true, false] rfl rfl (one_of HT_.out (by kernel_rfl)) (by decide) (fun K hK => ?_)
    refine goes_ Try.func68 (by kernel_rfl) rfl #[.int .i64 x1_1] (by rfl) rfl rfl (by (try simp only [List.map_toArray, List.map_cons, List.map_nil]); first | done | rfl) ?_
    with_reducible refine (laws_markText.calls k1 x1_1 t416 _ A5.out).mono ?_
    rintro e w14 ⟨rfl, hb⟩
    refine ⟨_, rfl, ?_⟩
    have n0_ := Aside0.mk (below_step (by repeat (first | (with_reducible first | exact HB.out | apply bA_ | apply bN_ | apply b1_) | exact HB.out)) hb)
    clear HB
    have HB := n0_
    clear n0_
    (try clear hb)
    (try clear hb2)
    (try clear hk)
    (try clear hi)
    refine hK.out _ _ ⟨((HB.out.cell (World.block_lt_of_cell? w _ hw415_0)).trans hw415_0), ((HB.out.cell (World.block_lt_of_cell? w _ hw415_1)).trans hw415_1), ((HB.out.cell (World.block_lt_of_cell? w _ hw415_2)).trans hw415_2), ((HB.out.cell (World.block_lt_of_cell? w _ hw415_3)).trans hw415_3), ((HB.out.cell (World.block_lt_of_cell? w _ hw415_4)).trans hw415_4)⟩ (fun hHeld => ?_)
    clear hK K
    refine norm_ (a' := ?_) ?_ ?_
    rotate_left
    · show Act.put _ (some 18) _ = _
      simp only [Act.put, List.setIfInBounds_toArray, List.set_cons_zero, List.set_cons_succ, i64_w, i32_w]
      rfl
    refine pure_ (i := 7) (N := some 19) (v := ?_) (a' := ?_) #[true, true, true, true, true, true, true, true] rfl rfl (any_of HT_.out (by kernel_rfl)) (fun _ _ _ h => h) (Or.inl ⟨by rfl, ?_⟩) ?_ ?_
    rotate_left
    · intro w'
      go_simp
      with_reducible rfl
    rotate_left
    · simp only [Act.put, List.setIfInBounds_toArray, List.set_cons_zero, List.set_cons_succ, i64_w, i32_w]
      rfl
    refine done_ (done_of HT_.out (by kernel_rfl)) ?_
    have p417 : 0 ≤ (x5_1 : Int) := of_decide_eq_true (by first|with_reducible assumption|assumption)
    have q417 : x5_1 < (l0.length : Int) := of_decide_eq_true (by first|with_reducible assumption|assumption)
    obtain ⟨ad417, e417, hx417_0, hx417_1, hx417_2, hx417_3, hx417_4⟩ := at_T26 HR0.out x5_1 p417 q417
    obtain rfl : ad415 = ad417 := (by injection e417)
    replace hx417_0 := cl_ HB.out hx417_0
    replace hx417_1 := cl_ HB.out hx417_1
    replace hx417_2 := cl_ HB.out hx417_2
    replace hx417_3 := cl_ HB.out hx417_3
    replace hx417_4 := cl_ HB.out hx417_4
    replace p417 := eq_true p417
    replace q417 := eq_true q417
    have p418 : 0 ≤ (x5_1 : Int) := of_decide_eq_true (by first|with_reducible assumption|assumption)
    have q418 : x5_1 < (l0.length : Int) := of_decide_eq_true (by first|with_reducible assumption|assumption)
    obtain ⟨ad418, e418, hx418_0, hx418_1, hx418_2, hx418_3, hx418_4⟩ := at_T26 HR0.out x5_1 p418 q418
    obtain rfl : ad415 = ad418 := (by injection e418)
    replace hx418_0 := cl_ HB.out hx418_0
    replace hx418_1 := cl_ HB.out hx418_1
    replace hx418_2 := cl_ HB.out hx418_2
    replace hx418_3 := cl_ HB.out hx418_3
    replace hx418_4 := cl_ HB.out hx418_4
    replace p418 := eq_true p418
    replace q418 := eq_true q418
    have p419 : 0 ≤ (x5_1 : Int) := of_decide_eq_true (by first|with_reducible assumption|assumption)
    have q419 : x5_1 < (l0.length : Int) := of_decide_eq_true (by first|with_reducible assumption|assumption)
    obtain ⟨ad419, e419, hx419_0, hx419_1, hx419_2, hx419_3, hx419_4⟩ := at_T26 HR0.out x5_1 p419 q419
    obtain rfl : ad415 = ad419 := (by injection e419)
    replace hx419_0 := cl_ HB.out hx419_0
    replace hx419_1 := cl_ HB.out hx419_1
    replace hx419_2 := cl_ HB.out hx419_2
    replace hx419_3 := cl_ HB.out hx419_3
    replace hx419_4 := cl_ HB.out hx419_4
    replace p419 := eq_true p419
    replace q419 := eq_true q419
    have p420 : 0 ≤ (x5_1 : Int) := of_decide_eq_true (by first|with_reducible assumption|assumption)
    have q420 : x5_1 < (l0.length : Int) := of_decide_eq_true (by first|with_reducible assumption|assumption)
    obtain ⟨ad420, e420, hx420_0, hx420_1, hx420_2, hx420_3, hx420_4⟩ := at_T26 HR0.out x5_1 p420 q420
    obtain rfl : ad415 = ad420 := (by injection e420)
    replace hx420_0 := cl_ HB.out hx420_0
    replace hx420_1 := cl_ HB.out hx420_1
    replace hx420_2 := cl_ HB.out hx420_2
    replace hx420_3 := cl_ HB.out hx420_3
    replace hx420_4 := cl_ HB.out hx420_4
    replace p420 := eq_true p420
    replace q420 := eq_true q420
    try go_wp2
    go_ret
    exact ⟨by first | rfl | (simp [errW_none, errW_some] <;> rfl) | (simp [*, errW_none, errW_some] <;> rfl), by repeat (first | (with_reducible first | exact HB.out | apply bA_ | apply bN_ | apply b1_) | exact HB.out)⟩
   rw [if_pos c10] at H
   have c10b0 : (((rd_T26 l0 x5_1).f4) == (wrap64 ((wrap64 ((wrap64 ((wrap64 (x1_1 + 1)) + 1)) + 1)) + 1))) = true := beq_iff_eq.mpr c10
   have c10b1 : (((rd_T26 l0 x5_1).f4) != (wrap64 ((wrap64 ((wrap64 ((wrap64 (x1_1 + 1)) + 1)) + 1)) + 1))) = false := bne_eq_false_iff_eq.mpr c10
   clear c10
   have H' := Aside0.mk H
   clear H
   try go_wp2
   have n0_ := Aside0.mk (below_drew1 HB.out)
   clear HB
   have HB := n0_
   clear n0_
   have p415 : 0 ≤ (x5_1 : Int) := of_decide_eq_true (by first|with_reducible assumption|assumption)
   have q415 : x5_1 < (l0.length : Int) := of_decide_eq_true (by first|with_reducible assumption|assumption)
   obtain ⟨ad415, e415, hx415_0, hx415_1, hx415_2, hx415_3, hx415_4⟩ := at_T26 HR0.out x5_1 p415 q415
   have hw415_4 := hx415_4
   have hw415_3 := hx415_3
   have hw415_2 := hx415_2
   have hw415_1 := hx415_1
   have hw415_0 := hx415_0
   cases e415
   replace hx415_0 := cl_ HB.out hx415_0
   replace hx415_1 := cl_ HB.out hx415_1
   replace hx415_2 := cl_ HB.out hx415_2
   replace hx415_3 := cl_ HB.out hx415_3
   replace hx415_4 := cl_ HB.out hx415_4
   replace p415 := eq_true p415
   replace q415 := eq_true q415
   refine start_ (n := 8) (S := fun w' => w'.cell? (ad415.add ((x5_1).toNat * 5)) = some (.string ((rd_T26 l0 x5_1).f0)) ∧ w'.cell? ⟨(ad415.add ((x5_1).toNat * 5)).block, (ad415.add ((x5_1).toNat * 5)).off + 1, none⟩ = some (.int .i64 ((rd_T26 l0 x5_1).f1)) ∧ w'.cell? ⟨(ad415.add ((x5_1).toNat * 5)).block, (ad415.add ((x5_1).toNat * 5)).off + 2, none⟩ = some (.int .i64 ((rd_T26 l0 x5_1).f2)) ∧ w'.cell? ⟨(ad415.add ((x5_1).toNat * 5)).block, (ad415.add ((x5_1).toNat * 5)).off + 3, none⟩ = some (.int .i64 ((rd_T26 l0 x5_1).f3)) ∧ w'.cell? ⟨(ad415.add ((x5_1).toNat * 5)).block, (ad415.add ((x5_1).toNat * 5)).off + 4, none⟩ = some (.int .i64 ((rd_T26 l0 x5_1).f4))) (ds := []) #[false, false, false, false, false, false, false, false] (by kernel_rfl) rfl rfl ⟨((HB.out.cell (World.block_lt_of_cell? w _ hw415_0)).trans hw415_0), ((HB.out.cell (World.block_lt_of_cell? w _ hw415_1)).trans hw415_1), ((HB.out.cell (World.block_lt_of_cell? w _ hw415_2)).trans hw415_2), ((HB.out.cell (World.block_lt_of_cell? w _ hw415_3)).trans hw415_3), ((HB.out.cell (World.block_lt_of_cell? w _ hw415_4)).trans hw415_4)⟩ (fun hHeld => ?_); refine with_tabW laws_heldApplianceS.tab4 laws_heldApplianceS.bits4 (fun HT_ HW_ => ?_)
   generalize wr.drew = w11 at HB hx415_0 hx415_1 hx415_2 hx415_3 hx415_4 hHeld ⊢
   refine pure_ (i := 0) (N := some 12) (v := ?_) (a' := ?_) #[true, false, false, false, false, false, false, false] rfl rfl (any_of HT_.out (by kernel_rfl)) (fun _ _ _ h => h) (Or.inl ⟨by rfl, ?_⟩) ?_ ?_
   rotate_left
   · intro w'
     go_simp
     with_reducible rfl
   rotate_left
   · simp only [Act.put, List.setIfInBounds_toArray, List.set_cons_zero, List.set_cons_succ, i64_w, i32_w]
     rfl
   refine pure_ (i := 1) (N := some 13) (v := ?_) (a' := ?_) #[true, true, false, false, false, false, false, false] rfl rfl (any_of HT_.out (by kernel_rfl)) (fun _ _ _ h => h) (Or.inl ⟨by rfl, ?_⟩) ?_ ?_
   rotate_left
   · intro w'
     go_simp
     with_reducible rfl
   rotate_left
   · simp only [Act.put, List.setIfInBounds_toArray, List.set_cons_zero, List.set_cons_succ, i64_w, i32_w]
     rfl
   refine pure_ (i := 2) (N := some 14) (v := ?_) (a' := ?_) #[true, true, true, false, false, false, false, false] rfl rfl (any_of HT_.out (by kernel_rfl)) (fun _ _ _ h => h) (Or.inl ⟨by rfl, ?_⟩) ?_ ?_
   rotate_left
   · intro w'
     go_simp
     with_reducible rfl
   rotate_left
   · simp only [Act.put, List.setIfInBounds_toArray, List.set_cons_zero, List.set_cons_succ, i64_w, i32_w]
     rfl
   refine pure_ (i := 3) (N := some 15) (v := ?_) (a' := ?_) #[true, true, true, true, false, false, false, false] rfl rfl (any_of HT_.out (by kernel_rfl)) (fun _ _ _ h => h) (Or.inl ⟨by rfl, ?_⟩) ?_ ?_
   rotate_left
   · intro w'
     go_simp
     with_reducible rfl
   rotate_left
   · simp only [Act.put, List.setIfInBounds_toArray, List.set_cons_zero, List.set_cons_succ, i64_w, i32_w]
     rfl
   refine pure_ (i := 5) (N := some 17) (v := ?_) (a' := ?_) #[true, true, true, true, false, true, false, false] rfl rfl (any_of HT_.out (by kernel_rfl)) (fun _ _ _ h => h) (Or.inl ⟨by rfl, ?_⟩) ?_ ?_
   rotate_left
   · intro w'
     go_simp
     with_reducible rfl
   rotate_left
   · simp only [Act.put, List.setIfInBounds_toArray, List.set_cons_zero, List.set_cons_succ, i64_w, i32_w]
     rfl
   refine take_ (i := 4) (N := some 16) (v := ?_) (a' := ?_) #[true, true, true, true, true, true, false, false] rfl rfl (take_ofW HT_.out HW_.out (by kernel_rfl)) (fun _ _ _ h => h) (Or.inl ⟨by rfl, ?_⟩) hHeld ?_ ?_
   rotate_left
   · rintro w' ⟨s0, s1, s2, s3, s4⟩
     go_simp
     with_reducible rfl
   rotate_left
   · simp only [Act.put, List.setIfInBounds_toArray, List.set_cons_zero, List.set_cons_succ, i64_w, i32_w]
     rfl
   refine one_ (i := 6) (N := some 18) #[true, true, true, true, true, true, true, false] rfl rfl (one_of HT_.out (by kernel_rfl)) (by decide) (fun K hK => ?_)
   refine goes_ Try.func68 (by kernel_rfl) rfl #[.int .i64 x1_1] (by rfl) rfl rfl (by (try simp only [List.map_toArray, List.map_cons, List.map_nil]); first | done | rfl) ?_
   with_reducible refine (laws_markText.calls k1 x1_1 t416 _ A5.out).mono ?_
   rintro e w12 ⟨rfl, hb⟩
   refine ⟨_, rfl, ?_⟩
   have n0_ := Aside0.mk (below_step (by repeat (first | (with_reducible first | exact HB.out | apply bA_ | apply bN_ | apply b1_) | exact HB.out)) hb)
   clear HB
   have HB := n0_
   clear n0_
   (try clear hb)
   (try clear hb2)
   (try clear hk)
   (try clear hi)
   refine hK.out _ _ ⟨((HB.out.cell (World.block_lt_of_cell? w _ hw415_0)).trans hw415_0), ((HB.out.cell (World.block_lt_of_cell? w _ hw415_1)).trans hw415_1), ((HB.out.cell (World.block_lt_of_cell? w _ hw415_2)).trans hw415_2), ((HB.out.cell (World.block_lt_of_cell? w _ hw415_3)).trans hw415_3), ((HB.out.cell (World.block_lt_of_cell? w _ hw415_4)).trans hw415_4)⟩ (fun hHeld => ?_)
   clear hK K
   refine norm_ (a' := ?_) ?_ ?_
   rotate_left
   · show Act.put _ (some 18) _ = _
     simp only [Act.put, List.setIfInBounds_toArray, List.set_cons_zero, List.set_cons_succ, i64_w, i32_w]
     rfl
   refine pure_ (i := 7) (N := some 19) (v := ?_) (a' := ?_) #[true, true, true, true, true, true, true, true] rfl rfl (any_of HT_.out (by kernel_rfl)) (fun _ _ _ h => h) (Or.inl ⟨by rfl, ?_⟩) ?_ ?_
   rotate_left
   · intro w'
     go_simp
     with_reducible rfl
   rotate_left
   · simp only [Act.put, List.setIfInBounds_toArray, List.set_cons_zero, List.set_cons_succ, i64_w, i32_w]
     rfl
   refine done_ (done_of HT_.out (by kernel_rfl)) ?_
   have p417 : 0 ≤ (x5_1 : Int) := of_decide_eq_true (by first|with_reducible assumption|assumption)
   have q417 : x5_1 < (l0.length : Int) := of_decide_eq_true (by first|with_reducible assumption|assumption)
   obtain ⟨ad417, e417, hx417_0, hx417_1, hx417_2, hx417_3, hx417_4⟩ := at_T26 HR0.out x5_1 p417 q417
   obtain rfl : ad415 = ad417 := (by injection e417)
   replace hx417_0 := cl_ HB.out hx417_0
   replace hx417_1 := cl_ HB.out hx417_1
   replace hx417_2 := cl_ HB.out hx417_2
   replace hx417_3 := cl_ HB.out hx417_3
   replace hx417_4 := cl_ HB.out hx417_4
   replace p417 := eq_true p417
   replace q417 := eq_true q417
   have p418 : 0 ≤ (x5_1 : Int) := of_decide_eq_true (by first|with_reducible assumption|assumption)
   have q418 : x5_1 < (l0.length : Int) := of_decide_eq_true (by first|with_reducible assumption|assumption)
   obtain ⟨ad418, e418, hx418_0, hx418_1, hx418_2, hx418_3, hx418_4⟩ := at_T26 HR0.out x5_1 p418 q418
   obtain rfl : ad415 = ad418 := (by injection e418)
   replace hx418_0 := cl_ HB.out hx418_0
   replace hx418_1 := cl_ HB.out hx418_1
   replace hx418_2 := cl_ HB.out hx418_2
   replace hx418_3 := cl_ HB.out hx418_3
   replace hx418_4 := cl_ HB.out hx418_4
   replace p418 := eq_true p418
   replace q418 := eq_true q418
   have p419 : 0 ≤ (x5_1 : Int) := of_decide_eq_true (by first|with_reducible assumption|assumption)
   have q419 : x5_1 < (l0.length : Int) := of_decide_eq_true (by first|with_reducible assumption|assumption)
   obtain ⟨ad419, e419, hx419_0, hx419_1, hx419_2, hx419_3, hx419_4⟩ := at_T26 HR0.out x5_1 p419 q419
   obtain rfl : ad415 = ad419 := (by injection e419)
   replace hx419_0 := cl_ HB.out hx419_0
   replace hx419_1 := cl_ HB.out hx419_1
   replace hx419_2 := cl_ HB.out hx419_2
   replace hx419_3 := cl_ HB.out hx419_3
   replace hx419_4 := cl_ HB.out hx419_4
   replace p419 := eq_true p419
   replace q419 := eq_true q419
   have p420 : 0 ≤ (x5_1 : Int) := of_decide_eq_true (by first|with_reducible assumption|assumption)
   have q420 : x5_1 < (l0.length : Int) := of_decide_eq_true (by first|with_reducible assumption|assumption)
   obtain ⟨ad420, e420, hx420_0, hx420_1, hx420_2, hx420_3, hx420_4⟩ := at_T26 HR0.out x5_1 p420 q420
   obtain rfl : ad415 = ad420 := (by injection e420)
   replace hx420_0 := cl_ HB.out hx420_0
   replace hx420_1 := cl_ HB.out hx420_1
   replace hx420_2 := cl_ HB.out hx420_2
   replace hx420_3 := cl_ HB.out hx420_3
   replace hx420_4 := cl_ HB.out hx420_4
   replace p420 := eq_true p420
   replace q420 := eq_true q420
   try go_wp2
   go_roundg k1
   case measure => have := HK1.out; omega
   case rel => exact ⟨(wrap64 ((wrap64 ((wrap64 ((wrap64 ((wrap64 (x1_1 + 1)) + 1)) + 1)) + 1)) + 1)), (wrap64 (x5_1 + 1)), (by first | rfl | (simp; done) | (simp [*]; done)), (by first | rfl | (simp; done) | (simp [*]; done)), H', ⟨by have := HK1.out; omega⟩, ⟨by repeat (first | (with_reducible first | exact HB.out | apply bA_ | apply bN_ | apply b1_) | exact HB.out)⟩⟩

/-! ### spec_ChangeState: function 43 -/
def spec_ChangeState.f (k : Nat) (l0 : List (S26)) (a1 : ByteArray) (a2 : Int) : Option ((List (S26)) × Bool) := (spec_apFind.f k l0 a1).bind fun t522 => ((spec_apFleet.f k l0).bind fun t523 => (if t523 = true then (if t522 < 0 then (some (([] : List (S26)), false)) else ((spec_apState.f a2).bind fun t524 => (if t524 = true then (if 0 ≤ t522 then (if t522 < (l0.length : Int) then ((spec_apMay.f k ((rd_T26 l0 t522).f4) a2).bind fun t526 => (if t526 = true then ((spec_apWith.f l0 t522 ((rd_T26 l0 t522).f0) ((rd_T26 l0 t522).f1) ((rd_T26 l0 t522).f2) ((rd_T26 l0 t522).f3) a2).bind fun t529 => (some (t529, true))) else (some (([] : List (S26)), false)))) else (none)) else (none)) else (some (([] : List (S26)), false))))) else (some (([] : List (S26)), false))))
theorem spec_ChangeState.mono : ∀ a0 a1 a2 k, LeO (spec_ChangeState.f k a0 a1 a2) (spec_ChangeState.f (k + 1) a0 a1 a2) := by
 intro a0 a1 a2 k
 unfold spec_ChangeState.f
 repeat' first
  | (with_reducible exact spec_apFind.mono _ _ _)
  | (with_reducible exact spec_apFleet.mono _ _)
  | (with_reducible exact spec_apMay.mono _ _ _)
  | (with_reducible exact LeO.refl _)
  | (with_reducible exact LeO.none _)
  | (with_reducible refine LeO.ite ?_ ?_)
  | (with_reducible refine LeO.bind ?_ (fun _ => ?_))
  | exact spec_apFind.mono _ _ _
  | exact spec_apFleet.mono _ _
  | exact spec_apMay.mono _ _ _
  | exact LeO.none _
  | refine LeO.ite ?_ ?_
  | refine LeO.bind ?_ (fun _ => ?_)
set_option maxHeartbeats 8000000 in
set_option maxRecDepth 100000 in
theorem spec_ChangeState.calls (k : Nat) (A0 : Option Addr) (c0 : Nat) (l0 : List (S26)) (a1 : ByteArray) (a2 : Int) (r1 : List (S26)) (r2 : Bool) (w : World) (hr0 : Kd.C k26 w A0 l0.length l0) (hc0 : l0.length ≤ c0) (h : spec_ChangeState.f k l0 a1 a2 = some (r1, r2)) :
  Calls Try.prog 43 #[.slice A0 l0.length c0, .string a1, .int .i64 a2] w fun e w' => ∃ v0_ : Value, e = .returned (.tuple #[v0_, .bool r2]) ∧ Kd.R k26 26 w' w.heap.size (fun _ => True) v0_ r1 ∧ Below w.heap.size w w' := by
 have hu26 := Try.underlying26
 have HR0 := Aside0.mk hr0
 have HC0 := Aside0.mk hc0
 clear hr0 hc0
 have HB := Aside0.mk (Below.refl w.heap.size w)
 have H : ((spec_apFind.f k l0 a1).bind fun t522 => ((spec_apFleet.f k l0).bind fun t523 => (if t523 = true then (if t522 < 0 then (some (([] : List (S26)), false)) else ((spec_apState.f a2).bind fun t524 => (if t524 = true then (if 0 ≤ t522 then (if t522 < (l0.length : Int) then ((spec_apMay.f k ((rd_T26 l0 t522).f4) a2).bind fun t526 => (if t526 = true then ((spec_apWith.f l0 t522 ((rd_T26 l0 t522).f0) ((rd_T26 l0 t522).f1) ((rd_T26 l0 t522).f2) ((rd_T26 l0 t522).f3) a2).bind fun t529 => (some (t529, true))) else (some (([] : List (S26)), false)))) else (none)) else (none)) else (some (([] : List (S26)), false))))) else (some (([] : List (S26)), false))))) = some (r1, r2) := h
 clear h
 replace H := Option.bind_eq_some_iff.mp H
 obtain ⟨t522, A40, H⟩ := H
 replace H : ((spec_apFleet.f k l0).bind fun t523 => (if t523 = true then (if t522 < 0 then (some (([] : List (S26)), false)) else ((spec_apState.f a2).bind fun t524 => (if t524 = true then (if 0 ≤ t522 then (if t522 < (l0.length : Int) then ((spec_apMay.f k ((rd_T26 l0 t522).f4) a2).bind fun t526 => (if t526 = true then ((spec_apWith.f l0 t522 ((rd_T26 l0 t522).f0) ((rd_T26 l0 t522).f1) ((rd_T26 l0 t522).f2) ((rd_T26 l0 t522).f3) a2).bind fun t529 => (some (t529, true))) else (some (([] : List (S26)), false)))) else (none)) else (none)) else (some (([] : List (S26)), false))))) else (some (([] : List (S26)), false)))) = some (r1, r2) := H
 have A4 := Aside0.mk A40
 clear A40
 replace H := Option.bind_eq_some_iff.mp H
 obtain ⟨t523, A50, H⟩ := H
 replace H : (if t523 = true then (if t522 < 0 then (some (([] : List (S26)), false)) else ((spec_apState.f a2).bind fun t524 => (if t524 = true then (if 0 ≤ t522 then (if t522 < (l0.length : Int) then ((spec_apMay.f k ((rd_T26 l0 t522).f4) a2).bind fun t526 => (if t526 = true then ((spec_apWith.f l0 t522 ((rd_T26 l0 t522).f0) ((rd_T26 l0 t522).f1) ((rd_T26 l0 t522).f2) ((rd_T26 l0 t522).f3) a2).bind fun t529 => (some (t529, true))) else (some (([] : List (S26)), false)))) else (none)) else (none)) else (some (([] : List (S26)), false))))) else (some (([] : List (S26)), false))) = some (r1, r2) := H
 have A5 := Aside0.mk A50
 clear A50
 by_cases c6 : t523 = true
 case neg =>
  replace c6 := Bool.eq_false_iff.mpr c6
  subst c6
  have H1 : (some (([] : List (S26)), false)) = some (r1, r2) := by rw [if_neg (show ¬ (false = true) by decide)] at H; exact H
  clear H
  have H := H1
  clear H1
  simp only [Option.some.injEq, Prod.mk.injEq] at H
  obtain ⟨rfl, rfl⟩ := H
  go_enter Try.func43, Try.ntmps43
  go_wp2_with (first | ((with_reducible refine gate_callee (f := 65) rfl ?_); refine goesL_ (some 12) rfl rfl Try.func65 (by kernel_rfl) rfl #[.slice A0 l0.length c0, .string a1] rfl (by (try simp only [List.map_toArray, List.map_cons, List.map_nil]); first | done | rfl) ?_; (with_reducible refine (spec_apFind.calls k _ _ l0 a1 t522 _ ?side1 ?side2 A4.out).mono ?_); (case side1 => repeat (first | exact HR0.out | (with_reducible refine Kd.C_alloc ?_ _) | (with_reducible refine Kd.C_drewN ?_ _) | (with_reducible refine Kd.C_drew ?_))); (case side2 => exact HC0.out); rintro e w28 ⟨rfl, hb⟩; refine ⟨_, rfl, ?_⟩; have n0_ := Aside0.mk (below_step (by repeat (first | (with_reducible first | exact HB.out | apply bA_ | apply bN_ | apply b1_) | exact HB.out)) hb); clear HB; have HB := n0_; clear n0_; (try clear hb); (try clear hb2); (try clear hk); (try clear hi)) | ((with_reducible refine gate_callee (f := 62) rfl ?_); refine goesL_ (some 14) rfl rfl Try.func62 (by kernel_rfl) rfl #[.slice A0 l0.length c0] rfl (by (try simp only [List.map_toArray, List.map_cons, List.map_nil]); first | done | rfl) ?_; (with_reducible refine (spec_apFleet.calls k _ _ l0 false _ ?side1 ?side2 A5.out).mono ?_); (case side1 => repeat (first | exact (Kd.C_below HR0.out HB.out) | (with_reducible refine Kd.C_alloc ?_ _) | (with_reducible refine Kd.C_drewN ?_ _) | (with_reducible refine Kd.C_drew ?_))); (case side2 => exact HC0.out); rintro e w29 ⟨rfl, hb⟩; refine ⟨_, rfl, ?_⟩; have n0_ := Aside0.mk (below_step (by repeat (first | (with_reducible first | exact HB.out | apply bA_ | apply bN_ | apply b1_) | exact HB.out)) hb); clear HB; have HB := n0_; clear n0_; (try clear hb); (try clear hb2); (try clear hk); (try clear hi)))
  go_ret2
  exact ⟨_, by first | rfl | (simp [errW_none, errW_some] <;> rfl) | (simp [*, errW_none, errW_some] <;> rfl), by first | exact Kd.R_nil _ _ _ _ _ | exact Kd.N_nil _ _ _ _ _ | exact Kd.V_nil _ _ _ _ _ | exact Kd.Q_nil _ _ _ _ _ | exact Kd.S_nil _ _ _ _ _, by repeat (first | (with_reducible first | exact HB.out | apply bA_ | apply bN_ | apply b1_) | exact HB.out)⟩
 subst c6
 have H1 : (if t522 < 0 then (some (([] : List (S26)), false)) else ((spec_apState.f a2).bind fun t524 => (if t524 = true then (if 0 ≤ t522 then (if t522 < (l0.length : Int) then ((spec_apMay.f k ((rd_T26 l0 t522).f4) a2).bind fun t526 => (if t526 = true then ((spec_apWith.f l0 t522 ((rd_T26 l0 t522).f0) ((rd_T26 l0 t522).f1) ((rd_T26 l0 t522).f2) ((rd_T26 l0 t522).f3) a2).bind fun t529 => (some (t529, true))) else (some (([] : List (S26)), false)))) else (none)) else (none)) else (some (([] : List (S26)), false))))) = some (r1, r2) := by rw [if_pos rfl] at H; exact H
 clear H
 have H := H1
 clear H1
 by_cases c7 : t522 < 0
 case neg =>
  rw [if_neg c7] at H
  have c7b0 : decide (t522 < 0) = false := decide_eq_false c7
  clear c7
  replace H := Option.bind_eq_some_iff.mp H
  obtain ⟨t524, A100, H⟩ := H
  replace H : (if t524 = true then (if 0 ≤ t522 then (if t522 < (l0.length : Int) then ((spec_apMay.f k ((rd_T26 l0 t522).f4) a2).bind fun t526 => (if t526 = true then ((spec_apWith.f l0 t522 ((rd_T26 l0 t522).f0) ((rd_T26 l0 t522).f1) ((rd_T26 l0 t522).f2) ((rd_T26 l0 t522).f3) a2).bind fun t529 => (some (t529, true))) else (some (([] : List (S26)), false)))) else (none)) else (none)) else (some (([] : List (S26)), false))) = some (r1, r2) := H
  have A10 := Aside0.mk A100
  clear A100
  by_cases c11 : t524 = true
  case neg =>
   replace c11 := Bool.eq_false_iff.mpr c11
   subst c11
   have H1 : (some (([] : List (S26)), false)) = some (r1, r2) := by rw [if_neg (show ¬ (false = true) by decide)] at H; exact H
   clear H
   have H := H1
   clear H1
   simp only [Option.some.injEq, Prod.mk.injEq] at H
   obtain ⟨rfl, rfl⟩ := H
   go_enter Try.func43, Try.ntmps43
   go_wp2_with (first | ((with_reducible refine gate_callee (f := 65) rfl ?_); refine goesL_ (some 12) rfl rfl Try.func65 (by kernel_rfl) rfl #[.slice A0 l0.length c0, .string a1] rfl (by (try simp only [List.map_toArray, List.map_cons, List.map_nil]); first | done | rfl) ?_; (with_reducible refine (spec_apFind.calls k _ _ l0 a1 t522 _ ?side1 ?side2 A4.out).mono ?_); (case side1 => repeat (first | exact HR0.out | (with_reducible refine Kd.C_alloc ?_ _) | (with_reducible refine Kd.C_drewN ?_ _) | (with_reducible refine Kd.C_drew ?_))); (case side2 => exact HC0.out); rintro e w26 ⟨rfl, hb⟩; refine ⟨_, rfl, ?_⟩; have n0_ := Aside0.mk (below_step (by repeat (first | (with_reducible first | exact HB.out | apply bA_ | apply bN_ | apply b1_) | exact HB.out)) hb); clear HB; have HB := n0_; clear n0_; (try clear hb); (try clear hb2); (try clear hk); (try clear hi)) | ((with_reducible refine gate_callee (f := 62) rfl ?_); refine goesL_ (some 14) rfl rfl Try.func62 (by kernel_rfl) rfl #[.slice A0 l0.length c0] rfl (by (try simp only [List.map_toArray, List.map_cons, List.map_nil]); first | done | rfl) ?_; (with_reducible refine (spec_apFleet.calls k _ _ l0 true _ ?side1 ?side2 A5.out).mono ?_); (case side1 => repeat (first | exact (Kd.C_below HR0.out HB.out) | (with_reducible refine Kd.C_alloc ?_ _) | (with_reducible refine Kd.C_drewN ?_ _) | (with_reducible refine Kd.C_drew ?_))); (case side2 => exact HC0.out); rintro e w27 ⟨rfl, hb⟩; refine ⟨_, rfl, ?_⟩; have n0_ := Aside0.mk (below_step (by repeat (first | (with_reducible first | exact HB.out | apply bA_ | apply bN_ | apply b1_) | exact HB.out)) hb); clear HB; have HB := n0_; clear n0_; (try clear hb); (try clear hb2); (try clear hk); (try clear hi)) | (go_at_call 57; (with_reducible refine (spec_apState.calls a2 false _ A10.out).mono ?_); rintro e w' ⟨rfl, ⟨nd, rfl⟩⟩))
   go_ret2
   exact ⟨_, by first | rfl | (simp [errW_none, errW_some] <;> rfl) | (simp [*, errW_none, errW_some] <;> rfl), by first | exact Kd.R_nil _ _ _ _ _ | exact Kd.N_nil _ _ _ _ _ | exact Kd.V_nil _ _ _ _ _ | exact Kd.Q_nil _ _ _ _ _ | exact Kd.S_nil _ _ _ _ _, by repeat (first | (with_reducible first | exact HB.out | apply bA_ | apply bN_ | apply b1_) | exact HB.out)⟩
  subst c11
  have H1 : (if 0 ≤ t522 then (if t522 < (l0.length : Int) then ((spec_apMay.f k ((rd_T26 l0 t522).f4) a2).bind fun t526 => (if t526 = true then ((spec_apWith.f l0 t522 ((rd_T26 l0 t522).f0) ((rd_T26 l0 t522).f1) ((rd_T26 l0 t522).f2) ((rd_T26 l0 t522).f3) a2).bind fun t529 => (some (t529, true))) else (some (([] : List (S26)), false)))) else (none)) else (none)) = some (r1, r2) := by rw [if_pos rfl] at H; exact H
  clear H
  have H := H1
  clear H1
  by_cases c12 : 0 ≤ t522
  case neg =>
   rw [if_neg c12] at H
   exact absurd H (by simp)
  rw [if_pos c12] at H
  have c12b0 : decide (0 ≤ t522) = true := decide_eq_true c12
  clear c12
  by_cases c13 : t522 < (l0.length : Int)
  case neg =>
   rw [if_neg c13] at H
   exact absurd H (by simp)
  rw [if_pos c13] at H
  have c13b0 : decide (t522 < (l0.length : Int)) = true := decide_eq_true c13
  clear c13
  replace H := Option.bind_eq_some_iff.mp H
  obtain ⟨t526, A140, H⟩ := H
  replace H : (if t526 = true then ((spec_apWith.f l0 t522 ((rd_T26 l0 t522).f0) ((rd_T26 l0 t522).f1) ((rd_T26 l0 t522).f2) ((rd_T26 l0 t522).f3) a2).bind fun t529 => (some (t529, true))) else (some (([] : List (S26)), false))) = some (r1, r2) := H
  have A14 := Aside0.mk A140
  clear A140
  by_cases c15 : t526 = true
  case neg =>
   replace c15 := Bool.eq_false_iff.mpr c15
   subst c15
   have H1 : (some (([] : List (S26)), false)) = some (r1, r2) := by rw [if_neg (show ¬ (false = true) by decide)] at H; exact H
   clear H
   have H := H1
   clear H1
   simp only [Option.some.injEq, Prod.mk.injEq] at H
   obtain ⟨rfl, rfl⟩ := H
   go_enter Try.func43, Try.ntmps43
   go_wp2_with (first | ((with_reducible refine gate_callee (f := 65) rfl ?_); refine goesL_ (some 12) rfl rfl Try.func65 (by kernel_rfl) rfl #[.slice A0 l0.length c0, .string a1] rfl (by (try simp only [List.map_toArray, List.map_cons, List.map_nil]); first | done | rfl) ?_; (with_reducible refine (spec_apFind.calls k _ _ l0 a1 t522 _ ?side1 ?side2 A4.out).mono ?_); (case side1 => repeat (first | exact HR0.out | (with_reducible refine Kd.C_alloc ?_ _) | (with_reducible refine Kd.C_drewN ?_ _) | (with_reducible refine Kd.C_drew ?_))); (case side2 => exact HC0.out); rintro e w23 ⟨rfl, hb⟩; refine ⟨_, rfl, ?_⟩; have n0_ := Aside0.mk (below_step (by repeat (first | (with_reducible first | exact HB.out | apply bA_ | apply bN_ | apply b1_) | exact HB.out)) hb); clear HB; have HB := n0_; clear n0_; (try clear hb); (try clear hb2); (try clear hk); (try clear hi)) | ((with_reducible refine gate_callee (f := 62) rfl ?_); refine goesL_ (some 14) rfl rfl Try.func62 (by kernel_rfl) rfl #[.slice A0 l0.length c0] rfl (by (try simp only [List.map_toArray, List.map_cons, List.map_nil]); first | done | rfl) ?_; (with_reducible refine (spec_apFleet.calls k _ _ l0 true _ ?side1 ?side2 A5.out).mono ?_); (case side1 => repeat (first | exact (Kd.C_below HR0.out HB.out) | (with_reducible refine Kd.C_alloc ?_ _) | (with_reducible refine Kd.C_drewN ?_ _) | (with_reducible refine Kd.C_drew ?_))); (case side2 => exact HC0.out); rintro e w24 ⟨rfl, hb⟩; refine ⟨_, rfl, ?_⟩; have n0_ := Aside0.mk (below_step (by repeat (first | (with_reducible first | exact HB.out | apply bA_ | apply bN_ | apply b1_) | exact HB.out)) hb); clear HB; have HB := n0_; clear n0_; (try clear hb); (try clear hb2); (try clear hk); (try clear hi)) | (go_at_call 57; (with_reducible refine (spec_apState.calls a2 true _ A10.out).mono ?_); rintro e w' ⟨rfl, ⟨nd, rfl⟩⟩; have p525 : 0 ≤ (t522 : Int) := of_decide_eq_true (by first|with_reducible assumption|assumption); have q525 : t522 < (l0.length : Int) := of_decide_eq_true (by first|with_reducible assumption|assumption); obtain ⟨ad525, e525, hx525_0, hx525_1, hx525_2, hx525_3, hx525_4⟩ := at_T26 HR0.out t522 p525 q525; cases e525; replace hx525_0 := cl_ HB.out hx525_0; replace hx525_1 := cl_ HB.out hx525_1; replace hx525_2 := cl_ HB.out hx525_2; replace hx525_3 := cl_ HB.out hx525_3; replace hx525_4 := cl_ HB.out hx525_4; replace p525 := eq_true p525; replace q525 := eq_true q525) | (go_at_call 58; (with_reducible refine (spec_apMay.calls k ((rd_T26 l0 t522).f4) a2 false _ A14.out).mono ?_); rintro e w25 ⟨rfl, hb⟩; have n0_ := Aside0.mk (below_step (by repeat (first | (with_reducible first | exact HB.out | apply bA_ | apply bN_ | apply b1_) | exact HB.out)) hb); clear HB; have HB := n0_; clear n0_; (try clear hb); (try clear hb2); (try clear hk); (try clear hi)))
   go_ret2
   exact ⟨_, by first | rfl | (simp [errW_none, errW_some] <;> rfl) | (simp [*, errW_none, errW_some] <;> rfl), by first | exact Kd.R_nil _ _ _ _ _ | exact Kd.N_nil _ _ _ _ _ | exact Kd.V_nil _ _ _ _ _ | exact Kd.Q_nil _ _ _ _ _ | exact Kd.S_nil _ _ _ _ _, by repeat (first | (with_reducible first | exact HB.out | apply bA_ | apply bN_ | apply b1_) | exact HB.out)⟩
  subst c15
  have H1 : ((spec_apWith.f l0 t522 ((rd_T26 l0 t522).f0) ((rd_T26 l0 t522).f1) ((rd_T26 l0 t522).f2) ((rd_T26 l0 t522).f3) a2).bind fun t529 => (some (t529, true))) = some (r1, r2) := by rw [if_pos rfl] at H; exact H
  clear H
  have H := H1
  clear H1
  replace H := Option.bind_eq_some_iff.mp H
  obtain ⟨t529, A160, H⟩ := H
  replace H : (some (t529, true)) = some (r1, r2) := H
  have A16 := Aside0.mk A160
  clear A160
  simp only [Option.some.injEq, Prod.mk.injEq] at H
  obtain ⟨rfl, rfl⟩ := H
  go_enter Try.func43, Try.ntmps43
  go_wp2_with (first | ((with_reducible refine gate_callee (f := 65) rfl ?_); refine goesL_ (some 12) rfl rfl Try.func65 (by kernel_rfl) rfl #[.slice A0 l0.length c0, .string a1] rfl (by (try simp only [List.map_toArray, List.map_cons, List.map_nil]); first | done | rfl) ?_; (with_reducible refine (spec_apFind.calls k _ _ l0 a1 t522 _ ?side1 ?side2 A4.out).mono ?_); (case side1 => repeat (first | exact HR0.out | (with_reducible refine Kd.C_alloc ?_ _) | (with_reducible refine Kd.C_drewN ?_ _) | (with_reducible refine Kd.C_drew ?_))); (case side2 => exact HC0.out); rintro e w17 ⟨rfl, hb⟩; refine ⟨_, rfl, ?_⟩; have n0_ := Aside0.mk (below_step (by repeat (first | (with_reducible first | exact HB.out | apply bA_ | apply bN_ | apply b1_) | exact HB.out)) hb); clear HB; have HB := n0_; clear n0_; (try clear hb); (try clear hb2); (try clear hk); (try clear hi)) | ((with_reducible refine gate_callee (f := 62) rfl ?_); refine goesL_ (some 14) rfl rfl Try.func62 (by kernel_rfl) rfl #[.slice A0 l0.length c0] rfl (by (try simp only [List.map_toArray, List.map_cons, List.map_nil]); first | done | rfl) ?_; (with_reducible refine (spec_apFleet.calls k _ _ l0 true _ ?side1 ?side2 A5.out).mono ?_); (case side1 => repeat (first | exact (Kd.C_below HR0.out HB.out) | (with_reducible refine Kd.C_alloc ?_ _) | (with_reducible refine Kd.C_drewN ?_ _) | (with_reducible refine Kd.C_drew ?_))); (case side2 => exact HC0.out); rintro e w18 ⟨rfl, hb⟩; refine ⟨_, rfl, ?_⟩; have n0_ := Aside0.mk (below_step (by repeat (first | (with_reducible first | exact HB.out | apply bA_ | apply bN_ | apply b1_) | exact HB.out)) hb); clear HB; have HB := n0_; clear n0_; (try clear hb); (try clear hb2); (try clear hk); (try clear hi)) | (go_at_call 57; (with_reducible refine (spec_apState.calls a2 true _ A10.out).mono ?_); rintro e w' ⟨rfl, ⟨nd, rfl⟩⟩; (try (rw [drewN_self w18]; generalize hq_ : World.drewN w18 _ = w18; have n0_ : Aside0 (Below w.heap.size w w18) := ⟨by rw [← hq_]; exact (by repeat (first | (with_reducible first | exact HB.out | apply bA_ | apply bN_ | apply b1_) | exact HB.out))⟩; clear HB hq_; have HB := n0_; clear n0_)); have p525 : 0 ≤ (t522 : Int) := of_decide_eq_true (by first|with_reducible assumption|assumption); have q525 : t522 < (l0.length : Int) := of_decide_eq_true (by first|with_reducible assumption|assumption); obtain ⟨ad525, e525, hx525_0, hx525_1, hx525_2, hx525_3, hx525_4⟩ := at_T26 HR0.out t522 p525 q525; cases e525; replace hx525_0 := cl_ HB.out hx525_0; replace hx525_1 := cl_ HB.out hx525_1; replace hx525_2 := cl_ HB.out hx525_2; replace hx525_3 := cl_ HB.out hx525_3; replace hx525_4 := cl_ HB.out hx525_4; replace p525 := eq_true p525; replace q525 := eq_true q525) | (go_at_call 58; (with_reducible refine (spec_apMay.calls k ((rd_T26 l0 t522).f4) a2 true _ A14.out).mono ?_); rintro e w19 ⟨rfl, hb⟩; have n0_ := Aside0.mk (below_step (by repeat (first | (with_reducible first | exact HB.out | apply bA_ | apply bN_ | apply b1_) | exact HB.out)) hb); clear HB; have HB := n0_; clear n0_; (try clear hb); (try clear hb2); (try clear hk); (try clear hi); have p527 : 0 ≤ (t522 : Int) := of_decide_eq_true (by first|with_reducible assumption|assumption); have q527 : t522 < (l0.length : Int) := of_decide_eq_true (by first|with_reducible assumption|assumption); obtain ⟨ad527, e527, hx527_0, hx527_1, hx527_2, hx527_3, hx527_4⟩ := at_T26 HR0.out t522 p527 q527; obtain rfl : ad525 = ad527 := (by injection e527); replace hx527_0 := cl_ HB.out hx527_0; replace hx527_1 := cl_ HB.out hx527_1; replace hx527_2 := cl_ HB.out hx527_2; replace hx527_3 := cl_ HB.out hx527_3; replace hx527_4 := cl_ HB.out hx527_4; replace p527 := eq_true p527; replace q527 := eq_true q527) | ((with_reducible refine gate_dst (N := 9) rfl ?_); refine box_event ?hg (N := 9) ?hd (cs := #[.string (⟨#[]⟩ : ByteArray), .int .i64 0, .int .i64 0, .int .i64 0, .int .i64 0]) (t := 26) ?hr ?_; (case hd => rfl); (case hg => rfl); (case hr => first | (go_simp; done) | (go_simp; rfl)); intro gb528 hg w20 hbox hb; have n0_ := Aside0.mk (below_step (by repeat (first | (with_reducible first | exact HB.out | apply bA_ | apply bN_ | apply b1_) | exact HB.out)) hb); have n1_ := Aside0.mk (hbox); have n2_ := Aside0.mk ((by rw [hg]; exact (below_size (by repeat (first | (with_reducible first | exact HB.out | apply bA_ | apply bN_ | apply b1_) | exact HB.out))) : w.heap.size ≤ gb528)); have n3_ := n2_; clear HB; have HB := n0_; have BK528 := n1_; have GW528 := n2_; have GE528 := n3_; clear n0_ n1_ n2_ n3_; clear hb hbox hg; obtain ⟨hcz21_0, hcz21_1, hcz21_2, hcz21_3, hcz21_4, hfz21_0, hfz21_1, hfz21_2, hfz21_3, hfz21_4⟩ := blk5_ BK528.out) | ((with_reducible refine gate_store (t := 3) (p := 40) rfl ?_); refine store_event (t := 3) (p := 40) (v := ?vz528) (w1 := ?wz528) ?hg ?ho ?hn ?hr ?_; (case ho => rfl); (case hg => rfl); (case hn => rfl); (case hr => first | (go_simp; done) | (go_simp; rfl)); intro wz_ hz_; have m0_ : Aside0 (wz_.heap[gb528]? = some (.cells #[.string ((rd_T26 l0 t522).f0), .int .i64 ((rd_T26 l0 t522).f1), .int .i64 ((rd_T26 l0 t522).f2), .int .i64 ((rd_T26 l0 t522).f3), .int .i64 a2] 26 (0, 0))) := ⟨by rw [hz_]; (with_reducible repeat (first | refine blk_drewN ?_ _ | refine blk_drew ?_ | refine blk_alloc ?_ _)); refine blk_put (cs := #[.string ((rd_T26 l0 t522).f0), .int .i64 ((rd_T26 l0 t522).f1), .int .i64 ((rd_T26 l0 t522).f2), .int .i64 ((rd_T26 l0 t522).f3), .int .i64 ((rd_T26 l0 t522).f4)]) ?_ 4 _ rfl; (with_reducible repeat (first | refine blk_drewN ?_ _ | refine blk_drew ?_ | refine blk_alloc ?_ _)); refine blk_put (cs := #[.string ((rd_T26 l0 t522).f0), .int .i64 ((rd_T26 l0 t522).f1), .int .i64 ((rd_T26 l0 t522).f2), .int .i64 ((rd_T26 l0 t522).f3), .int .i64 0]) ?_ 4 _ rfl; (with_reducible repeat (first | refine blk_drewN ?_ _ | refine blk_drew ?_ | refine blk_alloc ?_ _)); refine blk_put (cs := #[.string ((rd_T26 l0 t522).f0), .int .i64 ((rd_T26 l0 t522).f1), .int .i64 ((rd_T26 l0 t522).f2), .int .i64 0, .int .i64 0]) ?_ 3 _ rfl; (with_reducible repeat (first | refine blk_drewN ?_ _ | refine blk_drew ?_ | refine blk_alloc ?_ _)); refine blk_put (cs := #[.string ((rd_T26 l0 t522).f0), .int .i64 ((rd_T26 l0 t522).f1), .int .i64 0, .int .i64 0, .int .i64 0]) ?_ 2 _ rfl; (with_reducible repeat (first | refine blk_drewN ?_ _ | refine blk_drew ?_ | refine blk_alloc ?_ _)); refine blk_put (cs := #[.string ((rd_T26 l0 t522).f0), .int .i64 0, .int .i64 0, .int .i64 0, .int .i64 0]) ?_ 1 _ rfl; (with_reducible repeat (first | refine blk_drewN ?_ _ | refine blk_drew ?_ | refine blk_alloc ?_ _)); refine blk_put (cs := #[.string (⟨#[]⟩ : ByteArray), .int .i64 0, .int .i64 0, .int .i64 0, .int .i64 0]) ?_ 0 _ rfl; (with_reducible repeat (first | refine blk_drewN ?_ _ | refine blk_drew ?_ | refine blk_alloc ?_ _)); exact BK528.out⟩; have m1_ : Aside0 (Below w.heap.size w wz_) := ⟨by rw [hz_]; repeat (first | (with_reducible first | exact HB.out | apply bA_ | apply bN_ | apply b1_ | refine below_set ?_ GE528.out) | exact HB.out)⟩; clear hz_; clear BK528; clear HB; have BK528 := m0_; have HB := m1_; clear m0_ m1_; have hcy528_0 : wz_.cell? ⟨gb528, 0, none⟩ = some (.string ((rd_T26 l0 t522).f0)) := (blk_cell BK528.out 0).trans rfl; have hcy528_1 : wz_.cell? ⟨gb528, 1, none⟩ = some (.int .i64 ((rd_T26 l0 t522).f1)) := (blk_cell BK528.out 1).trans rfl; have hcy528_2 : wz_.cell? ⟨gb528, 2, none⟩ = some (.int .i64 ((rd_T26 l0 t522).f2)) := (blk_cell BK528.out 2).trans rfl; have hcy528_3 : wz_.cell? ⟨gb528, 3, none⟩ = some (.int .i64 ((rd_T26 l0 t522).f3)) := (blk_cell BK528.out 3).trans rfl; have hcy528_4 : wz_.cell? ⟨gb528, 4, none⟩ = some (.int .i64 a2) := (blk_cell BK528.out 4).trans rfl; have hfy528_0 := blk_frozen BK528.out 0; have hfy528_1 := blk_frozen BK528.out 1; have hfy528_2 := blk_frozen BK528.out 2; have hfy528_3 := blk_frozen BK528.out 3; have hfy528_4 := blk_frozen BK528.out 4) | ((with_reducible refine gate_dst (N := 43) rfl ?_); refine wpList_load_row ?hg 26 (.tmp 9) ?ho gb528 ?hx 26 _ (0, 0) _ BK528.out hu26 rfl ?hi ?_; (case hg => rfl); (case ho => rfl); (case hx => rfl); (case hi => first | rfl | kernel_rfl)) | ((with_reducible refine gate_callee (f := 70) rfl ?_); refine goesL_ (some 44) rfl rfl Try.func70 (by kernel_rfl) rfl #[.slice (some ad525) l0.length c0, .int .i64 t522, .agg #[.string ((rd_T26 l0 t522).f0), .int .i64 ((rd_T26 l0 t522).f1), .int .i64 ((rd_T26 l0 t522).f2), .int .i64 ((rd_T26 l0 t522).f3), .int .i64 a2]] rfl (by (try simp only [List.map_toArray, List.map_cons, List.map_nil]); first | done | rfl) ?_; (with_reducible refine (spec_apWith.calls _ _ l0 t522 ((rd_T26 l0 t522).f0) ((rd_T26 l0 t522).f1) ((rd_T26 l0 t522).f2) ((rd_T26 l0 t522).f3) a2 t529 _ ?side1 ?side2 A16.out).mono ?_); (case side1 => exact Kd.C_below HR0.out (by repeat (first | (with_reducible first | exact HB.out | apply bA_ | apply bN_ | apply b1_ | refine below_set ?_ GE528.out) | exact HB.out))); (case side2 => exact HC0.out); rintro e w22 ⟨v530, rfl, ho0, hb⟩; refine ⟨_, rfl, ?_⟩; have n0_ := Aside0.mk (Kd.R_lower (Kd.R_newB ho0 (g := gb528) (o := .cells #[.string ((rd_T26 l0 t522).f0), .int .i64 ((rd_T26 l0 t522).f1), .int .i64 ((rd_T26 l0 t522).f2), .int .i64 ((rd_T26 l0 t522).f3), .int .i64 a2] 26 (0, 0)) (by exact BK528.out)) (below_size (by repeat (first | (with_reducible first | exact HB.out | apply bA_ | apply bN_ | apply b1_ | refine below_set ?_ GE528.out) | exact HB.out)))); have n1_ := Aside0.mk (blk_below (g := gb528) (o := .cells #[.string ((rd_T26 l0 t522).f0), .int .i64 ((rd_T26 l0 t522).f1), .int .i64 ((rd_T26 l0 t522).f2), .int .i64 ((rd_T26 l0 t522).f3), .int .i64 a2] 26 (0, 0)) (by exact BK528.out) hb); have n2_ := Aside0.mk (below_step (by repeat (first | (with_reducible first | exact HB.out | apply bA_ | apply bN_ | apply b1_ | refine below_set ?_ GE528.out) | exact HB.out)) hb); clear BK528; clear HB; have HO531 := n0_; have BK528 := n1_; have HB := n2_; clear n0_ n1_ n2_; (try clear hb); (try clear hb2); (try clear hk); (try clear hi); (try clear ho0)))
  go_ret2
  exact ⟨v530, rfl, Kd.R_mono HO531.out (fun _ hk => trivial), HB.out⟩
 rw [if_pos c7] at H
 have c7b0 : decide (t522 < 0) = true := decide_eq_true c7
 clear c7
 simp only [Option.some.injEq, Prod.mk.injEq] at H
 obtain ⟨rfl, rfl⟩ := H
 go_enter Try.func43, Try.ntmps43
 go_wp2_with (first | ((with_reducible refine gate_callee (f := 65) rfl ?_); refine goesL_ (some 12) rfl rfl Try.func65 (by kernel_rfl) rfl #[.slice A0 l0.length c0, .string a1] rfl (by (try simp only [List.map_toArray, List.map_cons, List.map_nil]); first | done | rfl) ?_; (with_reducible refine (spec_apFind.calls k _ _ l0 a1 t522 _ ?side1 ?side2 A4.out).mono ?_); (case side1 => repeat (first | exact HR0.out | (with_reducible refine Kd.C_alloc ?_ _) | (with_reducible refine Kd.C_drewN ?_ _) | (with_reducible refine Kd.C_drew ?_))); (case side2 => exact HC0.out); rintro e w8 ⟨rfl, hb⟩; refine ⟨_, rfl, ?_⟩; have n0_ := Aside0.mk (below_step (by repeat (first | (with_reducible first | exact HB.out | apply bA_ | apply bN_ | apply b1_) | exact HB.out)) hb); clear HB; have HB := n0_; clear n0_; (try clear hb); (try clear hb2); (try clear hk); (try clear hi)) | ((with_reducible refine gate_callee (f := 62) rfl ?_); refine goesL_ (some 14) rfl rfl Try.func62 (by kernel_rfl) rfl #[.slice A0 l0.length c0] rfl (by (try simp only [List.map_toArray, List.map_cons, List.map_nil]); first | done | rfl) ?_; (with_reducible refine (spec_apFleet.calls k _ _ l0 true _ ?side1 ?side2 A5.out).mono ?_); (case side1 => repeat (first | exact (Kd.C_below HR0.out HB.out) | (with_reducible refine Kd.C_alloc ?_ _) | (with_reducible refine Kd.C_drewN ?_ _) | (with_reducible refine Kd.C_drew ?_))); (case side2 => exact HC0.out); rintro e w9 ⟨rfl, hb⟩; refine ⟨_, rfl, ?_⟩; have n0_ := Aside0.mk (below_step (by repeat (first | (with_reducible first | exact HB.out | apply bA_ | apply bN_ | apply b1_) | exact HB.out)) hb); clear HB; have HB := n0_; clear n0_; (try clear hb); (try clear hb2); (try clear hk); (try clear hi)))
 go_ret2
 exact ⟨_, by first | rfl | (simp [errW_none, errW_some] <;> rfl) | (simp [*, errW_none, errW_some] <;> rfl), by first | exact Kd.R_nil _ _ _ _ _ | exact Kd.N_nil _ _ _ _ _ | exact Kd.V_nil _ _ _ _ _ | exact Kd.Q_nil _ _ _ _ _ | exact Kd.S_nil _ _ _ _ _, by repeat (first | (with_reducible first | exact HB.out | apply bA_ | apply bN_ | apply b1_) | exact HB.out)⟩

/-! ### impl_ChangeState: function 44 -/
def impl_ChangeState.f (k : Nat) (l0 : List (S26)) (a1 : ByteArray) (a2 : Int) : Option ((List (S26)) × Bool) := (impl_findAppliance.f k l0 a1).bind fun t532 => ((impl_isFleet.f k l0).bind fun t533 => (if t533 = true then (if t532 < 0 then (some (([] : List (S26)), false)) else ((impl_isState.f a2).bind fun t534 => (if t534 = true then (if 0 ≤ t532 then (if t532 < (l0.length : Int) then ((impl_following.f ((rd_T26 l0 t532).f4)).bind fun t536 => ((slices_Contains_int_int.f k t536 a2).bind fun t539 => (if t539 = true then ((impl_Appliance_72.f l0).bind fun t540 => (if t532 < (t540.length : Int) then (some ((t540.set (t532 : Int).toNat (⟨(rd_T26 t540 t532).f0, (rd_T26 t540 t532).f1, (rd_T26 t540 t532).f2, (rd_T26 t540 t532).f3, a2⟩ : S26)), true)) else (none))) else (some (([] : List (S26)), false))))) else (none)) else (none)) else (some (([] : List (S26)), false))))) else (some (([] : List (S26)), false))))
theorem impl_ChangeState.mono : ∀ a0 a1 a2 k, LeO (impl_ChangeState.f k a0 a1 a2) (impl_ChangeState.f (k + 1) a0 a1 a2) := by
 intro a0 a1 a2 k
 unfold impl_ChangeState.f
 repeat' first
  | (with_reducible exact impl_findAppliance.mono _ _ _)
  | (with_reducible exact impl_isFleet.mono _ _)
  | (with_reducible exact slices_Contains_int_int.mono _ _ _)
  | (with_reducible exact LeO.refl _)
  | (with_reducible exact LeO.none _)
  | (with_reducible refine LeO.ite ?_ ?_)
  | (with_reducible refine LeO.bind ?_ (fun _ => ?_))
  | exact impl_findAppliance.mono _ _ _
  | exact impl_isFleet.mono _ _
  | exact slices_Contains_int_int.mono _ _ _
  | exact LeO.none _
  | refine LeO.ite ?_ ?_
  | refine LeO.bind ?_ (fun _ => ?_)
set_option maxHeartbeats 8000000 in
set_option maxRecDepth 100000 in
theorem impl_ChangeState.calls (k : Nat) (A0 : Option Addr) (c0 : Nat) (l0 : List (S26)) (a1 : ByteArray) (a2 : Int) (r1 : List (S26)) (r2 : Bool) (w : World) (hr0 : Kd.C k26 w A0 l0.length l0) (hc0 : l0.length ≤ c0) (h : impl_ChangeState.f k l0 a1 a2 = some (r1, r2)) :
  Calls Try.prog 44 #[.slice A0 l0.length c0, .string a1, .int .i64 a2] w fun e w' => ∃ v0_ : Value, e = .returned (.tuple #[v0_, .bool r2]) ∧ Kd.R k26 26 w' w.heap.size (fun _ => True) v0_ r1 ∧ Below w.heap.size w w' := by
 have HR0 := Aside0.mk hr0
 have HC0 := Aside0.mk hc0
 clear hr0 hc0
 have HB := Aside0.mk (Below.refl w.heap.size w)
 have H : ((impl_findAppliance.f k l0 a1).bind fun t532 => ((impl_isFleet.f k l0).bind fun t533 => (if t533 = true then (if t532 < 0 then (some (([] : List (S26)), false)) else ((impl_isState.f a2).bind fun t534 => (if t534 = true then (if 0 ≤ t532 then (if t532 < (l0.length : Int) then ((impl_following.f ((rd_T26 l0 t532).f4)).bind fun t536 => ((slices_Contains_int_int.f k t536 a2).bind fun t539 => (if t539 = true then ((impl_Appliance_72.f l0).bind fun t540 => (if t532 < (t540.length : Int) then (some ((t540.set (t532 : Int).toNat (⟨(rd_T26 t540 t532).f0, (rd_T26 t540 t532).f1, (rd_T26 t540 t532).f2, (rd_T26 t540 t532).f3, a2⟩ : S26)), true)) else (none))) else (some (([] : List (S26)), false))))) else (none)) else (none)) else (some (([] : List (S26)), false))))) else (some (([] : List (S26)), false))))) = some (r1, r2) := h
 clear h
 replace H := Option.bind_eq_some_iff.mp H
 obtain ⟨t532, A40, H⟩ := H
 replace H : ((impl_isFleet.f k l0).bind fun t533 => (if t533 = true then (if t532 < 0 then (some (([] : List (S26)), false)) else ((impl_isState.f a2).bind fun t534 => (if t534 = true then (if 0 ≤ t532 then (if t532 < (l0.length : Int) then ((impl_following.f ((rd_T26 l0 t532).f4)).bind fun t536 => ((slices_Contains_int_int.f k t536 a2).bind fun t539 => (if t539 = true then ((impl_Appliance_72.f l0).bind fun t540 => (if t532 < (t540.length : Int) then (some ((t540.set (t532 : Int).toNat (⟨(rd_T26 t540 t532).f0, (rd_T26 t540 t532).f1, (rd_T26 t540 t532).f2, (rd_T26 t540 t532).f3, a2⟩ : S26)), true)) else (none))) else (some (([] : List (S26)), false))))) else (none)) else (none)) else (some (([] : List (S26)), false))))) else (some (([] : List (S26)), false)))) = some (r1, r2) := H
 have A4 := Aside0.mk A40
 clear A40
 replace H := Option.bind_eq_some_iff.mp H
 obtain ⟨t533, A50, H⟩ := H
 replace H : (if t533 = true then (if t532 < 0 then (some (([] : List (S26)), false)) else ((impl_isState.f a2).bind fun t534 => (if t534 = true then (if 0 ≤ t532 then (if t532 < (l0.length : Int) then ((impl_following.f ((rd_T26 l0 t532).f4)).bind fun t536 => ((slices_Contains_int_int.f k t536 a2).bind fun t539 => (if t539 = true then ((impl_Appliance_72.f l0).bind fun t540 => (if t532 < (t540.length : Int) then (some ((t540.set (t532 : Int).toNat (⟨(rd_T26 t540 t532).f0, (rd_T26 t540 t532).f1, (rd_T26 t540 t532).f2, (rd_T26 t540 t532).f3, a2⟩ : S26)), true)) else (none))) else (some (([] : List (S26)), false))))) else (none)) else (none)) else (some (([] : List (S26)), false))))) else (some (([] : List (S26)), false))) = some (r1, r2) := H
 have A5 := Aside0.mk A50
 clear A50
 by_cases c6 : t533 = true
 case neg =>
  replace c6 := Bool.eq_false_iff.mpr c6
  subst c6
  have H1 : (some (([] : List (S26)), false)) = some (r1, r2) := by rw [if_neg (show ¬ (false = true) by decide)] at H; exact H
  clear H
  have H := H1
  clear H1
  simp only [Option.some.injEq, Prod.mk.injEq] at H
  obtain ⟨rfl, rfl⟩ := H
  go_enter Try.func44, Try.ntmps44
  go_wp2_with (first | ((with_reducible refine gate_callee (f := 66) rfl ?_); refine goesL_ (some 12) rfl rfl Try.func66 (by kernel_rfl) rfl #[.slice A0 l0.length c0, .string a1] rfl (by (try simp only [List.map_toArray, List.map_cons, List.map_nil]); first | done | rfl) ?_; (with_reducible refine (impl_findAppliance.calls k _ _ l0 a1 t532 _ ?side1 ?side2 A4.out).mono ?_); (case side1 => repeat (first | exact HR0.out | (with_reducible refine Kd.C_alloc ?_ _) | (with_reducible refine Kd.C_drewN ?_ _) | (with_reducible refine Kd.C_drew ?_))); (case side2 => exact HC0.out); rintro e w33 ⟨rfl, hb⟩; refine ⟨_, rfl, ?_⟩; have n0_ := Aside0.mk (below_step (by repeat (first | (with_reducible first | exact HB.out | apply bA_ | apply bN_ | apply b1_) | exact HB.out)) hb); clear HB; have HB := n0_; clear n0_; (try clear hb); (try clear hb2); (try clear hk); (try clear hi)) | ((with_reducible refine gate_callee (f := 63) rfl ?_); refine goesL_ (some 14) rfl rfl Try.func63 (by kernel_rfl) rfl #[.slice A0 l0.length c0] rfl (by (try simp only [List.map_toArray, List.map_cons, List.map_nil]); first | done | rfl) ?_; (with_reducible refine (impl_isFleet.calls k _ _ l0 false _ ?side1 ?side2 A5.out).mono ?_); (case side1 => repeat (first | exact (Kd.C_below HR0.out HB.out) | (with_reducible refine Kd.C_alloc ?_ _) | (with_reducible refine Kd.C_drewN ?_ _) | (with_reducible refine Kd.C_drew ?_))); (case side2 => exact HC0.out); rintro e w34 ⟨rfl, hb⟩; refine ⟨_, rfl, ?_⟩; have n0_ := Aside0.mk (below_step (by repeat (first | (with_reducible first | exact HB.out | apply bA_ | apply bN_ | apply b1_) | exact HB.out)) hb); clear HB; have HB := n0_; clear n0_; (try clear hb); (try clear hb2); (try clear hk); (try clear hi)))
  go_ret2
  exact ⟨_, by first | rfl | (simp [errW_none, errW_some] <;> rfl) | (simp [*, errW_none, errW_some] <;> rfl), by first | exact Kd.R_nil _ _ _ _ _ | exact Kd.N_nil _ _ _ _ _ | exact Kd.V_nil _ _ _ _ _ | exact Kd.Q_nil _ _ _ _ _ | exact Kd.S_nil _ _ _ _ _, by repeat (first | (with_reducible first | exact HB.out | apply bA_ | apply bN_ | apply b1_) | exact HB.out)⟩
 subst c6
 have H1 : (if t532 < 0 then (some (([] : List (S26)), false)) else ((impl_isState.f a2).bind fun t534 => (if t534 = true then (if 0 ≤ t532 then (if t532 < (l0.length : Int) then ((impl_following.f ((rd_T26 l0 t532).f4)).bind fun t536 => ((slices_Contains_int_int.f k t536 a2).bind fun t539 => (if t539 = true then ((impl_Appliance_72.f l0).bind fun t540 => (if t532 < (t540.length : Int) then (some ((t540.set (t532 : Int).toNat (⟨(rd_T26 t540 t532).f0, (rd_T26 t540 t532).f1, (rd_T26 t540 t532).f2, (rd_T26 t540 t532).f3, a2⟩ : S26)), true)) else (none))) else (some (([] : List (S26)), false))))) else (none)) else (none)) else (some (([] : List (S26)), false))))) = some (r1, r2) := by rw [if_pos rfl] at H; exact H
 clear H
 have H := H1
 clear H1
 by_cases c7 : t532 < 0
 case neg =>
  rw [if_neg c7] at H
  have c7b0 : decide (t532 < 0) = false := decide_eq_false c7
  clear c7
  replace H := Option.bind_eq_some_iff.mp H
  obtain ⟨t534, A100, H⟩ := H
  replace H : (if t534 = true then (if 0 ≤ t532 then (if t532 < (l0.length : Int) then ((impl_following.f ((rd_T26 l0 t532).f4)).bind fun t536 => ((slices_Contains_int_int.f k t536 a2).bind fun t539 => (if t539 = true then ((impl_Appliance_72.f l0).bind fun t540 => (if t532 < (t540.length : Int) then (some ((t540.set (t532 : Int).toNat (⟨(rd_T26 t540 t532).f0, (rd_T26 t540 t532).f1, (rd_T26 t540 t532).f2, (rd_T26 t540 t532).f3, a2⟩ : S26)), true)) else (none))) else (some (([] : List (S26)), false))))) else (none)) else (none)) else (some (([] : List (S26)), false))) = some (r1, r2) := H
  have A10 := Aside0.mk A100
  clear A100
  by_cases c11 : t534 = true
  case neg =>
   replace c11 := Bool.eq_false_iff.mpr c11
   subst c11
   have H1 : (some (([] : List (S26)), false)) = some (r1, r2) := by rw [if_neg (show ¬ (false = true) by decide)] at H; exact H
   clear H
   have H := H1
   clear H1
   simp only [Option.some.injEq, Prod.mk.injEq] at H
   obtain ⟨rfl, rfl⟩ := H
   go_enter Try.func44, Try.ntmps44
   go_wp2_with (first | ((with_reducible refine gate_callee (f := 66) rfl ?_); refine goesL_ (some 12) rfl rfl Try.func66 (by kernel_rfl) rfl #[.slice A0 l0.length c0, .string a1] rfl (by (try simp only [List.map_toArray, List.map_cons, List.map_nil]); first | done | rfl) ?_; (with_reducible refine (impl_findAppliance.calls k _ _ l0 a1 t532 _ ?side1 ?side2 A4.out).mono ?_); (case side1 => repeat (first | exact HR0.out | (with_reducible refine Kd.C_alloc ?_ _) | (with_reducible refine Kd.C_drewN ?_ _) | (with_reducible refine Kd.C_drew ?_))); (case side2 => exact HC0.out); rintro e w31 ⟨rfl, hb⟩; refine ⟨_, rfl, ?_⟩; have n0_ := Aside0.mk (below_step (by repeat (first | (with_reducible first | exact HB.out | apply bA_ | apply bN_ | apply b1_) | exact HB.out)) hb); clear HB; have HB := n0_; clear n0_; (try clear hb); (try clear hb2); (try clear hk); (try clear hi)) | ((with_reducible refine gate_callee (f := 63) rfl ?_); refine goesL_ (some 14) rfl rfl Try.func63 (by kernel_rfl) rfl #[.slice A0 l0.length c0] rfl (by (try simp only [List.map_toArray, List.map_cons, List.map_nil]); first | done | rfl) ?_; (with_reducible refine (impl_isFleet.calls k _ _ l0 true _ ?side1 ?side2 A5.out).mono ?_); (case side1 => repeat (first | exact (Kd.C_below HR0.out HB.out) | (with_reducible refine Kd.C_alloc ?_ _) | (with_reducible refine Kd.C_drewN ?_ _) | (with_reducible refine Kd.C_drew ?_))); (case side2 => exact HC0.out); rintro e w32 ⟨rfl, hb⟩; refine ⟨_, rfl, ?_⟩; have n0_ := Aside0.mk (below_step (by repeat (first | (with_reducible first | exact HB.out | apply bA_ | apply bN_ | apply b1_) | exact HB.out)) hb); clear HB; have HB := n0_; clear n0_; (try clear hb); (try clear hb2); (try clear hk); (try clear hi)) | (go_at_call 59; (with_reducible refine (impl_isState.calls a2 false _ A10.out).mono ?_); rintro e w' ⟨rfl, ⟨nd, rfl⟩⟩))
   go_ret2
   exact ⟨_, by first | rfl | (simp [errW_none, errW_some] <;> rfl) | (simp [*, errW_none, errW_some] <;> rfl), by first | exact Kd.R_nil _ _ _ _ _ | exact Kd.N_nil _ _ _ _ _ | exact Kd.V_nil _ _ _ _ _ | exact Kd.Q_nil _ _ _ _ _ | exact Kd.S_nil _ _ _ _ _, by repeat (first | (with_reducible first | exact HB.out | apply bA_ | apply bN_ | apply b1_) | exact HB.out)⟩
  subst c11
  have H1 : (if 0 ≤ t532 then (if t532 < (l0.length : Int) then ((impl_following.f ((rd_T26 l0 t532).f4)).bind fun t536 => ((slices_Contains_int_int.f k t536 a2).bind fun t539 => (if t539 = true then ((impl_Appliance_72.f l0).bind fun t540 => (if t532 < (t540.length : Int) then (some ((t540.set (t532 : Int).toNat (⟨(rd_T26 t540 t532).f0, (rd_T26 t540 t532).f1, (rd_T26 t540 t532).f2, (rd_T26 t540 t532).f3, a2⟩ : S26)), true)) else (none))) else (some (([] : List (S26)), false))))) else (none)) else (none)) = some (r1, r2) := by rw [if_pos rfl] at H; exact H
  clear H
  have H := H1
  clear H1
  by_cases c12 : 0 ≤ t532
  case neg =>
   rw [if_neg c12] at H
   exact absurd H (by simp)
  rw [if_pos c12] at H
  have c12b0 : decide (0 ≤ t532) = true := decide_eq_true c12
  clear c12
  by_cases c13 : t532 < (l0.length : Int)
  case neg =>
   rw [if_neg c13] at H
   exact absurd H (by simp)
  rw [if_pos c13] at H
  have c13b0 : decide (t532 < (l0.length : Int)) = true := decide_eq_true c13
  clear c13
  replace H := Option.bind_eq_some_iff.mp H
  obtain ⟨t536, A140, H⟩ := H
  replace H : ((slices_Contains_int_int.f k t536 a2).bind fun t539 => (if t539 = true then ((impl_Appliance_72.f l0).bind fun t540 => (if t532 < (t540.length : Int) then (some ((t540.set (t532 : Int).toNat (⟨(rd_T26 t540 t532).f0, (rd_T26 t540 t532).f1, (rd_T26 t540 t532).f2, (rd_T26 t540 t532).f3, a2⟩ : S26)), true)) else (none))) else (some (([] : List (S26)), false)))) = some (r1, r2) := H
  have A14 := Aside0.mk A140
  clear A140
  replace H := Option.bind_eq_some_iff.mp H
  obtain ⟨t539, A150, H⟩ := H
  replace H : (if t539 = true then ((impl_Appliance_72.f l0).bind fun t540 => (if t532 < (t540.length : Int) then (some ((t540.set (t532 : Int).toNat (⟨(rd_T26 t540 t532).f0, (rd_T26 t540 t532).f1, (rd_T26 t540 t532).f2, (rd_T26 t540 t532).f3, a2⟩ : S26)), true)) else (none))) else (some (([] : List (S26)), false))) = some (r1, r2) := H
  have A15 := Aside0.mk A150
  clear A150
  by_cases c16 : t539 = true
  case neg =>
   replace c16 := Bool.eq_false_iff.mpr c16
   subst c16
   have H1 : (some (([] : List (S26)), false)) = some (r1, r2) := by rw [if_neg (show ¬ (false = true) by decide)] at H; exact H
   clear H
   have H := H1
   clear H1
   simp only [Option.some.injEq, Prod.mk.injEq] at H
   obtain ⟨rfl, rfl⟩ := H
   go_enter Try.func44, Try.ntmps44
   go_wp2_with (first | ((with_reducible refine gate_callee (f := 66) rfl ?_); refine goesL_ (some 12) rfl rfl Try.func66 (by kernel_rfl) rfl #[.slice A0 l0.length c0, .string a1] rfl (by (try simp only [List.map_toArray, List.map_cons, List.map_nil]); first | done | rfl) ?_; (with_reducible refine (impl_findAppliance.calls k _ _ l0 a1 t532 _ ?side1 ?side2 A4.out).mono ?_); (case side1 => repeat (first | exact HR0.out | (with_reducible refine Kd.C_alloc ?_ _) | (with_reducible refine Kd.C_drewN ?_ _) | (with_reducible refine Kd.C_drew ?_))); (case side2 => exact HC0.out); rintro e w27 ⟨rfl, hb⟩; refine ⟨_, rfl, ?_⟩; have n0_ := Aside0.mk (below_step (by repeat (first | (with_reducible first | exact HB.out | apply bA_ | apply bN_ | apply b1_) | exact HB.out)) hb); clear HB; have HB := n0_; clear n0_; (try clear hb); (try clear hb2); (try clear hk); (try clear hi)) | ((with_reducible refine gate_callee (f := 63) rfl ?_); refine goesL_ (some 14) rfl rfl Try.func63 (by kernel_rfl) rfl #[.slice A0 l0.length c0] rfl (by (try simp only [List.map_toArray, List.map_cons, List.map_nil]); first | done | rfl) ?_; (with_reducible refine (impl_isFleet.calls k _ _ l0 true _ ?side1 ?side2 A5.out).mono ?_); (case side1 => repeat (first | exact (Kd.C_below HR0.out HB.out) | (with_reducible refine Kd.C_alloc ?_ _) | (with_reducible refine Kd.C_drewN ?_ _) | (with_reducible refine Kd.C_drew ?_))); (case side2 => exact HC0.out); rintro e w28 ⟨rfl, hb⟩; refine ⟨_, rfl, ?_⟩; have n0_ := Aside0.mk (below_step (by repeat (first | (with_reducible first | exact HB.out | apply bA_ | apply bN_ | apply b1_) | exact HB.out)) hb); clear HB; have HB := n0_; clear n0_; (try clear hb); (try clear hb2); (try clear hk); (try clear hi)) | (go_at_call 59; (with_reducible refine (impl_isState.calls a2 true _ A10.out).mono ?_); rintro e w' ⟨rfl, ⟨nd, rfl⟩⟩; have p535 : 0 ≤ (t532 : Int) := of_decide_eq_true (by first|with_reducible assumption|assumption); have q535 : t532 < (l0.length : Int) := of_decide_eq_true (by first|with_reducible assumption|assumption); obtain ⟨ad535, e535, hx535_0, hx535_1, hx535_2, hx535_3, hx535_4⟩ := at_T26 HR0.out t532 p535 q535; cases e535; replace hx535_0 := cl_ HB.out hx535_0; replace hx535_1 := cl_ HB.out hx535_1; replace hx535_2 := cl_ HB.out hx535_2; replace hx535_3 := cl_ HB.out hx535_3; replace hx535_4 := cl_ HB.out hx535_4; replace p535 := eq_true p535; replace q535 := eq_true q535) | (go_at_call 61; (with_reducible refine (impl_following.calls ((rd_T26 l0 t532).f4) t536 _ A14.out).mono ?_); rintro e w29 ⟨v537, rfl, ho0, hb⟩; have n0_ := Aside0.mk (Kd.R_lower ho0 (below_size (by repeat (first | (with_reducible first | exact HB.out | apply bA_ | apply bN_ | apply b1_) | exact HB.out)))); have n1_ := Aside0.mk (below_step (by repeat (first | (with_reducible first | exact HB.out | apply bA_ | apply bN_ | apply b1_) | exact HB.out)) hb); clear HB; have HO538 := n0_; have HB := n1_; clear n0_ n1_; (try clear hb); (try clear hb2); (try clear hk); (try clear hi); (try clear ho0); obtain ⟨Ao30, co30, eo30⟩ := Kd.R_slice HO538.out; subst eo30) | (go_at_call 60; (with_reducible refine (slices_Contains_int_int.calls k _ _ t536 a2 false _ ?side1 ?side2 A15.out).mono ?_); (case side1 => repeat (first | exact (Kd.R_reads' HO538.out).2.2 | (with_reducible refine Kd.C_alloc ?_ _) | (with_reducible refine Kd.C_drewN ?_ _) | (with_reducible refine Kd.C_drew ?_))); (case side2 => exact (Kd.R_reads' HO538.out).2.1); rintro e w' ⟨rfl, ⟨nd, rfl⟩⟩))
   go_ret2
   exact ⟨_, by first | rfl | (simp [errW_none, errW_some] <;> rfl) | (simp [*, errW_none, errW_some] <;> rfl), by first | exact Kd.R_nil _ _ _ _ _ | exact Kd.N_nil _ _ _ _ _ | exact Kd.V_nil _ _ _ _ _ | exact Kd.Q_nil _ _ _ _ _ | exact Kd.S_nil _ _ _ _ _, by repeat (first | (with_reducible first | exact HB.out | apply bA_ | apply bN_ | apply b1_) | exact HB.out)⟩
  subst c16
  have H1 : ((impl_Appliance_72.f l0).bind fun t540 => (if t532 < (t540.length : Int) then (some ((t540.set (t532 : Int).toNat (⟨(rd_T26 t540 t532).f0, (rd_T26 t540 t532).f1, (rd_T26 t540 t532).f2, (rd_T26 t540 t532).f3, a2⟩ : S26)), true)) else (none))) = some (r1, r2) := by rw [if_pos rfl] at H; exact H
  clear H
  have H := H1
  clear H1
  replace H := Option.bind_eq_some_iff.mp H
  obtain ⟨t540, A170, H⟩ := H
  replace H : (if t532 < (t540.length : Int) then (some ((t540.set (t532 : Int).toNat (⟨(rd_T26 t540 t532).f0, (rd_T26 t540 t532).f1, (rd_T26 t540 t532).f2, (rd_T26 t540 t532).f3, a2⟩ : S26)), true)) else (none)) = some (r1, r2) := H
  have A17 := Aside0.mk A170
  clear A170
  by_cases c18 : t532 < (t540.length : Int)
  case neg =>
   rw [if_neg c18] at H
   exact absurd H (by simp)
  rw [if_pos c18] at H
  have c18b0 : decide (t532 < (t540.length : Int)) = true := decide_eq_true c18
  clear c18
  obtain ⟨y543, hy543⟩ : ∃ y_ : List (S26), y_ = (t540.set (t532 : Int).toNat (⟨(rd_T26 t540 t532).f0, (rd_T26 t540 t532).f1, (rd_T26 t540 t532).f2, (rd_T26 t540 t532).f3, a2⟩ : S26)) := ⟨_, rfl⟩
  replace H : (some (y543, true)) = some (r1, r2) := by first | (rw [hy543]; with_reducible exact H) | (have H2_ := (Option.bind_some _ _).symm.trans H; rw [hy543]; with_reducible exact H2_) | (have H2_ := (Option.bind_some _ _).symm.trans H; with_reducible exact H2_) | with_reducible exact H | (rw [hy543]; exact H) | exact H
  have Ny543 := Aside0.mk hy543
  clear hy543
  simp only [Option.some.injEq, Prod.mk.injEq] at H
  obtain ⟨rfl, rfl⟩ := H
  go_enter Try.func44, Try.ntmps44
  go_wp2_with (first | ((with_reducible refine gate_callee (f := 66) rfl ?_); refine goesL_ (some 12) rfl rfl Try.func66 (by kernel_rfl) rfl #[.slice A0 l0.length c0, .string a1] rfl (by (try simp only [List.map_toArray, List.map_cons, List.map_nil]); first | done | rfl) ?_; (with_reducible refine (impl_findAppliance.calls k _ _ l0 a1 t532 _ ?side1 ?side2 A4.out).mono ?_); (case side1 => repeat (first | exact HR0.out | (with_reducible refine Kd.C_alloc ?_ _) | (with_reducible refine Kd.C_drewN ?_ _) | (with_reducible refine Kd.C_drew ?_))); (case side2 => exact HC0.out); rintro e w20 ⟨rfl, hb⟩; refine ⟨_, rfl, ?_⟩; have n0_ := Aside0.mk (below_step (by repeat (first | (with_reducible first | exact HB.out | apply bA_ | apply bN_ | apply b1_) | exact HB.out)) hb); clear HB; have HB := n0_; clear n0_; (try clear hb); (try clear hb2); (try clear hk); (try clear hi)) | ((with_reducible refine gate_callee (f := 63) rfl ?_); refine goesL_ (some 14) rfl rfl Try.func63 (by kernel_rfl) rfl #[.slice A0 l0.length c0] rfl (by (try simp only [List.map_toArray, List.map_cons, List.map_nil]); first | done | rfl) ?_; (with_reducible refine (impl_isFleet.calls k _ _ l0 true _ ?side1 ?side2 A5.out).mono ?_); (case side1 => repeat (first | exact (Kd.C_below HR0.out HB.out) | (with_reducible refine Kd.C_alloc ?_ _) | (with_reducible refine Kd.C_drewN ?_ _) | (with_reducible refine Kd.C_drew ?_))); (case side2 => exact HC0.out); rintro e w21 ⟨rfl, hb⟩; refine ⟨_, rfl, ?_⟩; have n0_ := Aside0.mk (below_step (by repeat (first | (with_reducible first | exact HB.out | apply bA_ | apply bN_ | apply b1_) | exact HB.out)) hb); clear HB; have HB := n0_; clear n0_; (try clear hb); (try clear hb2); (try clear hk); (try clear hi)) | (go_at_call 59; (with_reducible refine (impl_isState.calls a2 true _ A10.out).mono ?_); rintro e w' ⟨rfl, ⟨nd, rfl⟩⟩; (try (rw [drewN_self w21]; generalize hq_ : World.drewN w21 _ = w21; have n0_ : Aside0 (Below w.heap.size w w21) := ⟨by rw [← hq_]; exact (by repeat (first | (with_reducible first | exact HB.out | apply bA_ | apply bN_ | apply b1_) | exact HB.out))⟩; clear HB hq_; have HB := n0_; clear n0_)); have p535 : 0 ≤ (t532 : Int) := of_decide_eq_true (by first|with_reducible assumption|assumption); have q535 : t532 < (l0.length : Int) := of_decide_eq_true (by first|with_reducible assumption|assumption); obtain ⟨ad535, e535, hx535_0, hx535_1, hx535_2, hx535_3, hx535_4⟩ := at_T26 HR0.out t532 p535 q535; cases e535; replace hx535_0 := cl_ HB.out hx535_0; replace hx535_1 := cl_ HB.out hx535_1; replace hx535_2 := cl_ HB.out hx535_2; replace hx535_3 := cl_ HB.out hx535_3; replace hx535_4 := cl_ HB.out hx535_4; replace p535 := eq_true p535; replace q535 := eq_true q535) | (go_at_call 61; (with_reducible refine (impl_following.calls ((rd_T26 l0 t532).f4) t536 _ A14.out).mono ?_); rintro e w22 ⟨v537, rfl, ho0, hb⟩; have n0_ := Aside0.mk (Kd.R_lower ho0 (below_size (by repeat (first | (with_reducible first | exact HB.out | apply bA_ | apply bN_ | apply b1_) | exact HB.out)))); have n1_ := Aside0.mk (below_step (by repeat (first | (with_reducible first | exact HB.out | apply bA_ | apply bN_ | apply b1_) | exact HB.out)) hb); clear HB; have HO538 := n0_; have HB := n1_; clear n0_ n1_; (try clear hb); (try clear hb2); (try clear hk); (try clear hi); (try clear ho0); obtain ⟨Ao23, co23, eo23⟩ := Kd.R_slice HO538.out; subst eo23) | (go_at_call 60; (with_reducible refine (slices_Contains_int_int.calls k _ _ t536 a2 true _ ?side1 ?side2 A15.out).mono ?_); (case side1 => repeat (first | exact (Kd.R_reads' HO538.out).2.2 | (with_reducible refine Kd.C_alloc ?_ _) | (with_reducible refine Kd.C_drewN ?_ _) | (with_reducible refine Kd.C_drew ?_))); (case side2 => exact (Kd.R_reads' HO538.out).2.1); rintro e w' ⟨rfl, ⟨nd, rfl⟩⟩; (try (rw [drewN_self w22]; generalize hq_ : World.drewN w22 _ = w22; have n0_ : Aside0 (Kd.R (Kd.int .i64) 3 w22 w.heap.size (fun _ => True) (.slice Ao23 t536.length co23) t536) := ⟨by rw [← hq_]; exact (by (with_reducible repeat (first | apply Kd.R_alloc | apply Kd.R_drewN | apply Kd.R_drew)); exact HO538.out)⟩; have n1_ : Aside0 (Below w.heap.size w w22) := ⟨by rw [← hq_]; exact (by repeat (first | (with_reducible first | exact HB.out | apply bA_ | apply bN_ | apply b1_) | exact HB.out))⟩; clear HO538 HB hq_; have HO538 := n0_; have HB := n1_; clear n0_ n1_))) | ((with_reducible refine gate_callee (f := 72) rfl ?_); refine goesL_ (some 37) rfl rfl Try.func72 (by kernel_rfl) rfl #[.slice (some ad535) l0.length c0] rfl (by (try simp only [List.map_toArray, List.map_cons, List.map_nil]); first | done | rfl) ?_; (with_reducible refine (impl_Appliance_72.calls _ _ l0 t540 _ ?side1 ?side2 A17.out).mono ?_); (case side1 => repeat (first | exact (Kd.C_below HR0.out HB.out) | (with_reducible refine Kd.C_alloc ?_ _) | (with_reducible refine Kd.C_drewN ?_ _) | (with_reducible refine Kd.C_drew ?_))); (case side2 => exact HC0.out); rintro e w24 ⟨v541, rfl, ho0, hb⟩; refine ⟨_, rfl, ?_⟩; have n0_ := Aside0.mk (Kd.R_below (by (with_reducible repeat (first | apply Kd.R_alloc | apply Kd.R_drewN | apply Kd.R_drew)); exact HO538.out) hb); have n1_ := Aside0.mk (Kd.R_lower ho0 (below_size (by repeat (first | (with_reducible first | exact HB.out | apply bA_ | apply bN_ | apply b1_) | exact HB.out)))); have n2_ := Aside0.mk (below_step (by repeat (first | (with_reducible first | exact HB.out | apply bA_ | apply bN_ | apply b1_) | exact HB.out)) hb); clear HO538; clear HB; have HO538 := n0_; have HO542 := n1_; have HB := n2_; clear n0_ n1_ n2_; (try clear hb); (try clear hb2); (try clear hk); (try clear hi); (try clear ho0); have p19 : 0 ≤ (t532 : Int) := of_decide_eq_true (by first|with_reducible assumption|assumption); have q19 : (t532 : Int) < ((t540.length : Int) : Int) := of_decide_eq_true (by first|with_reducible assumption|assumption); obtain ⟨go19, co19, eo19, gb19, gl19, cl19, HG19⟩ := Kd.R_form HO542.out (by omega); (first | cases eo19 | (injection eo19 with ea_ en_ ec_; (first | subst ea_ | (injection ea_ with ea_; subst ea_)); subst ec_; clear en_)); have GB19 := Aside0.mk gb19; have GG19 := Aside0.mk HG19; clear gb19 gl19 HG19; obtain ⟨ce19, hcl19, hM19, hcc19, hfr19⟩ := Kd.R_elem HO542.out z26 (t532 : Int) p19 q19; obtain rfl := k26_openM hM19; have hx19_0 : w24.cell? ⟨go19, (t532 : Int).toNat * 5, none⟩ = some (.string ((rd_T26 t540 t532).f0)) := hcc19 0 _ rfl; have hx19_1 : w24.cell? ⟨go19, (t532 : Int).toNat * 5 + 1, none⟩ = some (.int .i64 ((rd_T26 t540 t532).f1)) := hcc19 1 _ rfl; have hx19_2 : w24.cell? ⟨go19, (t532 : Int).toNat * 5 + 2, none⟩ = some (.int .i64 ((rd_T26 t540 t532).f2)) := hcc19 2 _ rfl; have hx19_3 : w24.cell? ⟨go19, (t532 : Int).toNat * 5 + 3, none⟩ = some (.int .i64 ((rd_T26 t540 t532).f3)) := hcc19 3 _ rfl; have hx19_4 : w24.cell? ⟨go19, (t532 : Int).toNat * 5 + 4, none⟩ = some (.int .i64 ((rd_T26 t540 t532).f4)) := hcc19 4 _ rfl; have hf19_0 : w24.frozen? ⟨go19, (t532 : Int).toNat * 5, none⟩ = false := hfr19 0; have hf19_1 : w24.frozen? ⟨go19, (t532 : Int).toNat * 5 + 1, none⟩ = false := hfr19 1; have hf19_2 : w24.frozen? ⟨go19, (t532 : Int).toNat * 5 + 2, none⟩ = false := hfr19 2; have hf19_3 : w24.frozen? ⟨go19, (t532 : Int).toNat * 5 + 3, none⟩ = false := hfr19 3; have hf19_4 : w24.frozen? ⟨go19, (t532 : Int).toNat * 5 + 4, none⟩ = false := hfr19 4; clear hcl19 hcc19 hfr19 hM19; replace p19 := eq_true p19; replace q19 := eq_true q19; have HX25 := Aside0.mk (show Kd.R k26 26 w24 w.heap.size (fun _ => True) (.slice (some ⟨go19, 0, none⟩) t540.length co19) t540 from (by (with_reducible repeat (first | apply Kd.R_alloc | apply Kd.R_drewN | apply Kd.R_drew)); exact HO542.out)); obtain ⟨ce25, hcl25, hM25, hcc25, hfr25⟩ := Kd.R_elem HX25.out z26 (t532 : Int) (of_decide_eq_true (by first|with_reducible assumption|assumption)) (by have h_ : (t532 : Int) < ((t540.length : Int) : Int) := of_decide_eq_true (by first|with_reducible assumption|assumption); first | exact h_ | (have e_ := (Kd.R_reads' HO542.out).1; omega) | simpa using h_); obtain rfl := k26_openM hM25; have HP25 := Kd.R_seg HX25.out (t532 : Int) (of_decide_eq_true (by first|with_reducible assumption|assumption)) (by have h_ : (t532 : Int) < ((t540.length : Int) : Int) := of_decide_eq_true (by first|with_reducible assumption|assumption); first | exact h_ | (have e_ := (Kd.R_reads' HO542.out).1; omega) | simpa using h_) (seg := [.int .i64 a2]) (j := 4) hcl25 hcc25 (show 5 ≤ 5 from by decide) (x' := (⟨(rd_T26 t540 t532).f0, (rd_T26 t540 t532).f1, (rd_T26 t540 t532).f2, (rd_T26 t540 t532).f3, a2⟩ : S26)) (k26_mkM _ _ _ (⟨(rd_T26 t540 t532).f0, (rd_T26 t540 t532).f1, (rd_T26 t540 t532).f2, (rd_T26 t540 t532).f3, a2⟩ : S26) ) (fun _ hk => hk); have hx25_4 := hcc25 4 _ rfl; (try simp only [show (k26).sz = 5 from rfl, Nat.mul_one, Nat.add_zero] at hx25_4); have hf25_4 := hfr25 4; (try simp only [show (k26).sz = 5 from rfl, Nat.mul_one, Nat.add_zero] at hf25_4); clear hcl25 hcc25 hfr25 hM25) | ((with_reducible refine gate_store (t := 3) (p := 42) rfl ?_); refine store_event (t := 3) (p := 42) (v := ?vo_w26) (w1 := (w24.setCell ⟨go19, (t532 : Int).toNat * 5 + 4, none⟩ (.int .i64 a2))) ?hg ?ho ?hn ?hr ?_; (case ho => rfl); (case hg => rfl); (case hn => rfl); (case hr => first | (go_simp; done) | (go_simp; rfl)); intro w26 hw; have hg : w24.grownBy w26 (some go19) := (by rw [hw]; exact HP25.2); have hp_ : Kd.R k26 26 w26 w.heap.size (fun _ => True) (.slice (some ⟨go19, 0, none⟩) t540.length co19) y543 := (by rw [hw, Ny543.out]; exact HP25.1); clear HP25; have n0_ := Aside0.mk (Kd.R_over' (v := (.slice (some ⟨go19, 0, none⟩) t540.length co19)) (by (with_reducible repeat (first | apply Kd.R_alloc | apply Kd.R_drewN | apply Kd.R_drew)); exact HO538.out) (Kd.R_typed HO542.out) (by decide) hg); have n1_ := Aside0.mk (hp_); have n2_ := Aside0.mk ((by rw [hw]; exact below_set (HB.out) GB19.out : Below w.heap.size w w26)); clear HO538; clear HO542; clear HB; have HO538 := n0_; have HO542 := n1_; have HB := n2_; clear n0_ n1_ n2_; clear hg hw hp_))
  go_ret2
  exact ⟨_, by first | rfl | (simp [errW_none, errW_some] <;> rfl) | (simp [*, errW_none, errW_some] <;> rfl), by (with_reducible repeat (first | apply Kd.R_alloc | apply Kd.R_drewN | apply Kd.R_drew)); exact HO542.out, by repeat (first | (with_reducible first | exact HB.out | apply bA_ | apply bN_ | apply b1_) | exact HB.out)⟩
 rw [if_pos c7] at H
 have c7b0 : decide (t532 < 0) = true := decide_eq_true c7
 clear c7
 simp only [Option.some.injEq, Prod.mk.injEq] at H
 obtain ⟨rfl, rfl⟩ := H
 go_enter Try.func44, Try.ntmps44
 go_wp2_with (first | ((with_reducible refine gate_callee (f := 66) rfl ?_); refine goesL_ (some 12) rfl rfl Try.func66 (by kernel_rfl) rfl #[.slice A0 l0.length c0, .string a1] rfl (by (try simp only [List.map_toArray, List.map_cons, List.map_nil]); first | done | rfl) ?_; (with_reducible refine (impl_findAppliance.calls k _ _ l0 a1 t532 _ ?side1 ?side2 A4.out).mono ?_); (case side1 => repeat (first | exact HR0.out | (with_reducible refine Kd.C_alloc ?_ _) | (with_reducible refine Kd.C_drewN ?_ _) | (with_reducible refine Kd.C_drew ?_))); (case side2 => exact HC0.out); rintro e w8 ⟨rfl, hb⟩; refine ⟨_, rfl, ?_⟩; have n0_ := Aside0.mk (below_step (by repeat (first | (with_reducible first | exact HB.out | apply bA_ | apply bN_ | apply b1_) | exact HB.out)) hb); clear HB; have HB := n0_; clear n0_; (try clear hb); (try clear hb2); (try clear hk); (try clear hi)) | ((with_reducible refine gate_callee (f := 63) rfl ?_); refine goesL_ (some 14) rfl rfl Try.func63 (by kernel_rfl) rfl #[.slice A0 l0.length c0] rfl (by (try simp only [List.map_toArray, List.map_cons, List.map_nil]); first | done | rfl) ?_; (with_reducible refine (impl_isFleet.calls k _ _ l0 true _ ?side1 ?side2 A5.out).mono ?_); (case side1 => repeat (first | exact (Kd.C_below HR0.out HB.out) | (with_reducible refine Kd.C_alloc ?_ _) | (with_reducible refine Kd.C_drewN ?_ _) | (with_reducible refine Kd.C_drew ?_))); (case side2 => exact HC0.out); rintro e w9 ⟨rfl, hb⟩; refine ⟨_, rfl, ?_⟩; have n0_ := Aside0.mk (below_step (by repeat (first | (with_reducible first | exact HB.out | apply bA_ | apply bN_ | apply b1_) | exact HB.out)) hb); clear HB; have HB := n0_; clear n0_; (try clear hb); (try clear hb2); (try clear hk); (try clear hi)))
 go_ret2
 exact ⟨_, by first | rfl | (simp [errW_none, errW_some] <;> rfl) | (simp [*, errW_none, errW_some] <;> rfl), by first | exact Kd.R_nil _ _ _ _ _ | exact Kd.N_nil _ _ _ _ _ | exact Kd.V_nil _ _ _ _ _ | exact Kd.Q_nil _ _ _ _ _ | exact Kd.S_nil _ _ _ _ _, by repeat (first | (with_reducible first | exact HB.out | apply bA_ | apply bN_ | apply b1_) | exact HB.out)⟩

end Go.Proofs.Yteinfbfaijjknaa.P
