/- Written by a program of this session (wip/p2) out of the translation: plain Lean functions, and that the calls of the Go functions come to what these say. Conditions: as each contract states. -/
import Derived.Test.YtenfngleiohbhaaQFnExactWeakBranches5
namespace Go.Proofs.Ytenfngleiohbhaa.P
open Go.RowKit Go.Proofs.Ytenfngleiohbhaa Go.Proofs.YtenfngleiohbhaaW.PrintWords Go.Proofs.YtenfngleiohbhaaW.PrintLast Go.Proofs.YtenfngleiohbhaaW.PrintMore
attribute [local go_sem] max2_int min2_int max_two min_two max_three min_three max_four min_four   -- for this text's walks alone
set_option linter.unusedVariables false
set_option linter.unusedSimpArgs false

/-! ### spec_hoLoss: function 74 -/
def spec_hoLoss.f (a0_0 : Int) (a0_1 : Int) (a1 : Int) : Option (Int) := (spec_hoFactors.f).bind fun t450 => (if 0 ≤ a0_0 then (if a0_0 < (t450.length : Int) then (some (wrap64 (Int.tdiv (wrap64 ((wrap64 ((wrap64 ((wrap64 ((rd t450 a0_0) * a1)) * a1)) * a0_1)) + 99999999)) 100000000))) else (none)) else (none))
def spec_hoLoss.T1 : Bool × List (List Nat × List Nat) := (true, [([], []), ([], []), ([1], [1]), ([0, 2], [0, 2]), ([3], [3]), ([], []), ([4, 5], [4, 5]), ([], []), ([6, 7], [6, 7]), ([], []), ([9], [9]), ([8, 10], [8, 10]), ([11], [11]), ([12], [12]), ([13, 0, 0, 1, 2, 3, 4, 5, 6, 7, 8, 9, 10, 11, 12, 13], [13])])
def spec_hoLoss.B1 : List Nat := [0, 0, 2, 7, 15, 0, 63, 0, 255, 0, 512, 2047, 4095, 8191, 16383]
theorem spec_hoLoss.tab1 : rtab .any (opsOf Try.f74 1) = spec_hoLoss.T1 := by kernel_rfl
theorem spec_hoLoss.bits1 : waitsOk spec_hoLoss.T1.2 spec_hoLoss.B1 = true := by kernel_rfl
set_option maxHeartbeats 8000000 in
set_option maxRecDepth 100000 in
theorem spec_hoLoss.calls (a0_0 : Int) (a0_1 : Int) (a1 : Int) (r : Int) (w : World) (h : spec_hoLoss.f a0_0 a0_1 a1 = some r) :
  Calls Try.prog 74 #[.agg #[.int .i64 a0_0, .int .i64 a0_1], .int .i64 a1] w fun e w' => e = .returned (.int .i64 r) ∧ Below w.heap.size w w' := by
 have hu43 := Try.underlying43
 have HB := Aside0.mk (Below.refl w.heap.size w)
 have H : ((spec_hoFactors.f).bind fun t450 => (if 0 ≤ a0_0 then (if a0_0 < (t450.length : Int) then (some (wrap64 (Int.tdiv (wrap64 ((wrap64 ((wrap64 ((wrap64 ((rd t450 a0_0) * a1)) * a1)) * a0_1)) + 99999999)) 100000000))) else (none)) else (none))) = some r := h
 clear h
 replace H := Option.bind_eq_some_iff.mp H
 obtain ⟨t450, A30, H⟩ := H
 replace H : (if 0 ≤ a0_0 then (if a0_0 < (t450.length : Int) then (some (wrap64 (Int.tdiv (wrap64 ((wrap64 ((wrap64 ((wrap64 ((rd t450 a0_0) * a1)) * a1)) * a0_1)) + 99999999)) 100000000))) else (none)) else (none)) = some r := H
 have A3 := Aside0.mk A30
 clear A30
 by_cases c4 : 0 ≤ a0_0
 case neg =>
  rw [if_neg c4] at H
  exact absurd H (by simp)
 rw [if_pos c4] at H
 have c4b0 : decide (0 ≤ a0_0) = true := decide_eq_true c4
 clear c4
 by_cases c5 : a0_0 < (t450.length : Int)
 case neg =>
  rw [if_neg c5] at H
  exact absurd H (by simp)
 rw [if_pos c5] at H
 have c5b0 : decide (a0_0 < (t450.length : Int)) = true := decide_eq_true c5
 clear c5
 obtain rfl := Option.some.inj H
 go_enter Try.func74, Try.ntmps74
 try go_wp2_with (first | ((with_reducible refine gate_dst (N := 2) rfl ?_); refine box_event ?hg (N := 2) ?hd (cs := #[.int .i64 a0_0, .int .i64 a0_1]) (t := 43) ?hr ?_; (case hd => rfl); (case hg => rfl); (case hr => first | (go_simp; done) | (go_simp; rfl)); intro gb449 hg w6 hbox hb; have n0_ := Aside0.mk (below_step (by repeat (first | (with_reducible first | exact HB.out | apply bA_ | apply bN_ | apply b1_) | exact HB.out)) hb); have n1_ := Aside0.mk (hbox); have n2_ := Aside0.mk ((by rw [hg]; exact (below_size (by repeat (first | (with_reducible first | exact HB.out | apply bA_ | apply bN_ | apply b1_) | exact HB.out))) : w.heap.size ≤ gb449)); have n3_ := n2_; clear HB; have HB := n0_; have BK449 := n1_; have GW449 := n2_; have GE449 := n3_; clear n0_ n1_ n2_ n3_; clear hb hbox hg))
 have n0_ := Aside0.mk (blk_drew BK449.out)
 have n1_ := Aside0.mk (below_drew1 HB.out)
 clear BK449
 clear HB
 have BK449 := n0_
 have HB := n1_
 clear n0_ n1_
 refine start_ (n := 15) (S := fun w' => w'.cell? ⟨gb449, 0, none⟩ = some (.int .i64 a0_0) ∧ w'.cell? ⟨gb449, 1, none⟩ = some (.int .i64 a0_1)) (ds := []) #[false, false, false, false, false, false, false, false, false, false, false, false, false, false, false] (by kernel_rfl) rfl rfl ⟨(blk_cell BK449.out 0).trans rfl, (blk_cell BK449.out 1).trans rfl⟩ (fun hHeld => ?_); refine with_tabW spec_hoLoss.tab1 spec_hoLoss.bits1 (fun HT_ HW_ => ?_)
 generalize w6.drew = w7 at BK449 HB hHeld ⊢
 refine pure_ (i := 1) (N := some 6) (v := ?_) (a' := ?_) #[false, true, false, false, false, false, false, false, false, false, false, false, false, false, false] rfl rfl (any_of HT_.out (by kernel_rfl)) (fun _ _ _ h => h) (Or.inl ⟨by rfl, ?_⟩) ?_ ?_
 rotate_left
 · intro w'
   go_simp
   with_reducible rfl
 rotate_left
 · simp only [Act.put, List.setIfInBounds_toArray, List.set_cons_zero, List.set_cons_succ, i64_w, i32_w]
   rfl
 refine pure_ (i := 5) (N := some 10) (v := ?_) (a' := ?_) #[false, true, false, false, false, true, false, false, false, false, false, false, false, false, false] rfl rfl (any_of HT_.out (by kernel_rfl)) (fun _ _ _ h => h) (Or.inl ⟨by rfl, ?_⟩) ?_ ?_
 rotate_left
 · intro w'
   go_simp
   with_reducible rfl
 rotate_left
 · simp only [Act.put, List.setIfInBounds_toArray, List.set_cons_zero, List.set_cons_succ, i64_w, i32_w]
   rfl
 refine pure_ (i := 7) (N := some 12) (v := ?_) (a' := ?_) #[false, true, false, false, false, true, false, true, false, false, false, false, false, false, false] rfl rfl (any_of HT_.out (by kernel_rfl)) (fun _ _ _ h => h) (Or.inl ⟨by rfl, ?_⟩) ?_ ?_
 rotate_left
 · intro w'
   go_simp
   with_reducible rfl
 rotate_left
 · simp only [Act.put, List.setIfInBounds_toArray, List.set_cons_zero, List.set_cons_succ, i64_w, i32_w]
   rfl
 refine pure_ (i := 9) (N := some 14) (v := ?_) (a' := ?_) #[false, true, false, false, false, true, false, true, false, true, false, false, false, false, false] rfl rfl (any_of HT_.out (by kernel_rfl)) (fun _ _ _ h => h) (Or.inl ⟨by rfl, ?_⟩) ?_ ?_
 rotate_left
 · intro w'
   go_simp
   with_reducible rfl
 rotate_left
 · simp only [Act.put, List.setIfInBounds_toArray, List.set_cons_zero, List.set_cons_succ, i64_w, i32_w]
   rfl
 refine take_ (i := 2) (N := some 7) (v := ?_) (a' := ?_) #[false, true, true, false, false, true, false, true, false, true, false, false, false, false, false] rfl rfl (take_ofW HT_.out HW_.out (by kernel_rfl)) (fun _ _ _ h => h) (Or.inl ⟨by rfl, ?_⟩) hHeld ?_ ?_
 rotate_left
 · rintro w' ⟨s0, s1⟩
   go_simp
   with_reducible rfl
 rotate_left
 · simp only [Act.put, List.setIfInBounds_toArray, List.set_cons_zero, List.set_cons_succ, i64_w, i32_w]
   rfl
 refine take_ (i := 10) (N := some 15) (v := ?_) (a' := ?_) #[false, true, true, false, false, true, false, true, false, true, true, false, false, false, false] rfl rfl (take_ofW HT_.out HW_.out (by kernel_rfl)) (fun _ _ _ h => h) (Or.inl ⟨by rfl, ?_⟩) hHeld ?_ ?_
 rotate_left
 · rintro w' ⟨s0, s1⟩
   go_simp
   with_reducible rfl
 rotate_left
 · simp only [Act.put, List.setIfInBounds_toArray, List.set_cons_zero, List.set_cons_succ, i64_w, i32_w]
   rfl
 refine one_ (i := 0) (N := some 5) #[true, true, true, false, false, true, false, true, false, true, true, false, false, false, false] rfl rfl (one_of HT_.out (by kernel_rfl)) (by decide) (fun K hK => ?_)
 refine goes_ Try.func83 (by kernel_rfl) rfl #[] (by rfl) rfl rfl (by (try simp only [List.map_toArray, List.map_cons, List.map_nil]); first | done | rfl) ?_
 with_reducible refine (spec_hoFactors.calls  t450 _ A3.out).mono ?_
 rintro e w8 ⟨v451, rfl, ho0, hb⟩
 refine ⟨_, rfl, ?_⟩
 have n0_ := Aside0.mk (Kd.R_lower ho0 (below_size (by repeat (first | (with_reducible first | exact HB.out | apply bA_ | apply bN_ | apply b1_ | refine below_set ?_ GE449.out) | exact HB.out))))
 have n1_ := Aside0.mk (blk_below (g := gb449) (o := .cells #[.int .i64 a0_0, .int .i64 a0_1] 43 (0, 0)) (by (with_reducible repeat (first | refine blk_drewN ?_ _ | refine blk_drew ?_ | refine blk_alloc ?_ _)); exact BK449.out) hb)
 have n2_ := Aside0.mk (below_step (by repeat (first | (with_reducible first | exact HB.out | apply bA_ | apply bN_ | apply b1_ | refine below_set ?_ GE449.out) | exact HB.out)) hb)
 clear BK449
 clear HB
 have HO452 := n0_
 have BK449 := n1_
 have HB := n2_
 clear n0_ n1_ n2_
 (try clear hb)
 (try clear hb2)
 (try clear hk)
 (try clear hi)
 (try clear ho0)
 obtain ⟨Ao9, co9, eo9⟩ := Kd.R_slice HO452.out
 (first | subst eo9 | (injection eo9 with f1_ f2_ f3_; have f4_ := f1_.symm; have f5_ := f3_.symm; clear f1_ f2_ f3_; subst f4_; subst f5_))
 have p453 : 0 ≤ (a0_0 : Int) := of_decide_eq_true (by assumption)
 have q453 : a0_0 < (t450.length : Int) := of_decide_eq_true (by assumption)
 obtain ⟨ad453, e453, hx453_0⟩ := Kd.at_int (Kd.R_reads' HO452.out).2.2 a0_0 p453 q453
 cases e453
 replace p453 := eq_true p453
 replace q453 := eq_true q453
 refine hK.out _ _ ⟨(blk_cell BK449.out 0).trans rfl, (blk_cell BK449.out 1).trans rfl⟩ (fun hHeld => ?_)
 clear hK K
 refine Restart.restart_ (fun w' => w'.cell? (ad453.add (a0_0).toNat) = some (.int .i64 (rd t450 a0_0))) _ _ _ _ hHeld hx453_0 ?_
 replace hHeld := And.intro hHeld hx453_0
 refine norm_ (a' := ?_) ?_ ?_
 rotate_left
 · show Act.put _ (some 5) _ = _
   simp only [Act.put, List.setIfInBounds_toArray, List.set_cons_zero, List.set_cons_succ, i64_w, i32_w]
   rfl
 refine pure_ (i := 3) (N := some 8) (v := ?_) (a' := ?_) #[true, true, true, true, false, true, false, true, false, true, true, false, false, false, false] rfl rfl (any_of HT_.out (by kernel_rfl)) (fun _ _ _ h => h) (Or.inl ⟨by rfl, ?_⟩) ?_ ?_
 rotate_left
 · intro w'
   go_simp
   with_reducible rfl
 rotate_left
 · simp only [Act.put, List.setIfInBounds_toArray, List.set_cons_zero, List.set_cons_succ, i64_w, i32_w]
   rfl
 refine take_ (i := 4) (N := some 9) (v := ?_) (a' := ?_) #[true, true, true, true, true, true, false, true, false, true, true, false, false, false, false] rfl rfl (take_ofW HT_.out HW_.out (by kernel_rfl)) (fun _ _ _ h => h) (Or.inl ⟨by rfl, ?_⟩) hHeld ?_ ?_
 rotate_left
 · rintro w' ⟨⟨s0, s1⟩, s2⟩
   go_simp
   with_reducible rfl
 rotate_left
 · simp only [Act.put, List.setIfInBounds_toArray, List.set_cons_zero, List.set_cons_succ, i64_w, i32_w]
   rfl
 refine pure_ (i := 6) (N := some 11) (v := ?_) (a' := ?_) #[true, true, true, true, true, true, true, true, false, true, true, false, false, false, false] rfl rfl (any_of HT_.out (by kernel_rfl)) (fun _ _ _ h => h) (Or.inl ⟨by rfl, ?_⟩) ?_ ?_
 rotate_left
 · intro w'
   go_simp
   with_reducible rfl
 rotate_left
 · simp only [Act.put, List.setIfInBounds_toArray, List.set_cons_zero, List.set_cons_succ, i64_w, i32_w]
   rfl
 refine pure_ (i := 8) (N := some 13) (v := ?_) (a' := ?_) #[true, true, true, true, true, true, true, true, true, true, true, false, false, false, false] rfl rfl (any_of HT_.out (by kernel_rfl)) (fun _ _ _ h => h) (Or.inl ⟨by rfl, ?_⟩) ?_ ?_
 rotate_left
 · intro w'
   go_simp
   with_reducible rfl
 rotate_left
 · simp only [Act.put, List.setIfInBounds_toArray, List.set_cons_zero, List.set_cons_succ, i64_w, i32_w]
   rfl
 refine pure_ (i := 11) (N := some 16) (v := ?_) (a' := ?_) #[true, true, true, true, true, true, true, true, true, true, true, true, false, false, false] rfl rfl (any_of HT_.out (by kernel_rfl)) (fun _ _ _ h => h) (Or.inl ⟨by rfl, ?_⟩) ?_ ?_
 rotate_left
 · intro w'
   go_simp
   with_reducible rfl
 rotate_left
 · simp only [Act.put, List.setIfInBounds_toArray, List.set_cons_zero, List.set_cons_succ, i64_w, i32_w]
   rfl
 refine pure_ (i := 12) (N := some 17) (v := ?_) (a' := ?_) #[true, true, true, true, true, true, true, true, true, true, true, true, true, false, false] rfl rfl (any_of HT_.out (by kernel_rfl)) (fun _ _ _ h => h) (Or.inl ⟨by rfl, ?_⟩) ?_ ?_
 rotate_left
 · intro w'
   go_simp
   with_reducible rfl
 rotate_left
 · simp only [Act.put, List.setIfInBounds_toArray, List.set_cons_zero, List.set_cons_succ, i64_w, i32_w]
   rfl
 refine pure_ (i := 13) (N := some 18) (v := ?_) (a' := ?_) #[true, true, true, true, true, true, true, true, true, true, true, true, true, true, false] rfl rfl (any_of HT_.out (by kernel_rfl)) (fun _ _ _ h => h) (Or.inl ⟨by rfl, ?_⟩) ?_ ?_
 rotate_left
 · intro w'
   go_simp
   with_reducible rfl
 rotate_left
 · simp only [Act.put, List.setIfInBounds_toArray, List.set_cons_zero, List.set_cons_succ, i64_w, i32_w]
   rfl
 refine pure_ (i := 14) (N := some 4) (v := ?_) (a' := ?_) #[true, true, true, true, true, true, true, true, true, true, true, true, true, true, true] rfl rfl (any_of HT_.out (by kernel_rfl)) (fun _ _ _ h => h) (Or.inl ⟨by rfl, ?_⟩) ?_ ?_
 rotate_left
 · intro w'
   go_simp
   with_reducible rfl
 rotate_left
 · simp only [Act.put, List.setIfInBounds_toArray, List.set_cons_zero, List.set_cons_succ, i64_w, i32_w]
   rfl
 refine done_ (done_of HT_.out (by kernel_rfl)) ?_
 try go_wp2
 go_ret
 exact ⟨by first | rfl | (simp [errW_none, errW_some] <;> rfl) | (simp [*, errW_none, errW_some] <;> rfl), by repeat (first | (with_reducible first | exact HB.out | apply bA_ | apply bN_ | apply b1_ | refine below_set ?_ GE449.out) | exact HB.out)⟩

/-! ### spec_liLosses: function 64 -/
def spec_liLosses.l0 : Nat → List Int → List Int → List (S45) → Int → Int → Option (List Int)
  | 0, _, _, _, _, _ => none
  | k + 1, x3, x4, x10, x11, x12 => if x12 < x11 then (if 0 ≤ x12 then (if x12 < (x10.length : Int) then (if x12 < (x3.length : Int) then ((spec_hoLoss.f ((rd_T45 x10 x12).f1.f0) ((rd_T45 x10 x12).f1.f1) (rd x3 x12)).bind fun t460 => (if ((rd_T45 x10 x12).f0) ≥ 0 then (if 0 ≤ ((rd_T45 x10 x12).f0) then (if ((rd_T45 x10 x12).f0) < (x4.length : Int) then (if x4.length < 17592186044416 then (spec_liLosses.l0 k x3 (x4 ++ [wrap64 ((wrap64 (t460 + ((rd_T45 x10 x12).f2))) + (rd x4 ((rd_T45 x10 x12).f0)))]) x10 x11 (wrap64 (x12 + 1))) else (none)) else (none)) else (none)) else (if x4.length < 17592186044416 then (spec_liLosses.l0 k x3 (x4 ++ [wrap64 (t460 + ((rd_T45 x10 x12).f2))]) x10 x11 (wrap64 (x12 + 1))) else (none)))) else (none)) else (none)) else (none)) else (some x4)
def spec_liLosses.f (k : Nat) (l0 : List (S45)) : Option (List Int) := (spec_liFlows.f k l0).bind fun t454 => (spec_liLosses.l0 k t454 ([] : List Int) l0 (l0.length : Int) 0)
theorem spec_liLosses.mono_l : ∀ k, (∀ y0 y1 y2 y3 y4, LeO (spec_liLosses.l0 k y0 y1 y2 y3 y4) (spec_liLosses.l0 (k + 1) y0 y1 y2 y3 y4))
 | 0 => fun _ _ _ _ _ r h => by simp [spec_liLosses.l0] at h
 | k + 1 => by
  have ih0 := spec_liLosses.mono_l k
  · intro y0 y1 y2 y3 y4
    unfold spec_liLosses.l0
    repeat' first
    | (with_reducible exact ih0 _ _ _ _ _)
    | (with_reducible exact spec_liFlows.mono _ _)
    | (with_reducible exact LeO.refl _)
    | (with_reducible exact LeO.none _)
    | (with_reducible refine LeO.ite ?_ ?_)
    | (with_reducible refine LeO.bind ?_ (fun _ => ?_))
    | exact ih0 _ _ _ _ _
    | exact spec_liFlows.mono _ _
    | exact LeO.none _
    | refine LeO.ite ?_ ?_
    | refine LeO.bind ?_ (fun _ => ?_)
theorem spec_liLosses.mono : ∀ a0 k, LeO (spec_liLosses.f k a0) (spec_liLosses.f (k + 1) a0) := by
 intro a0 k
 have ih0 := spec_liLosses.mono_l k
 unfold spec_liLosses.f
 repeat' first
  | (with_reducible exact ih0 _ _ _ _ _)
  | (with_reducible exact spec_liFlows.mono _ _)
  | (with_reducible exact LeO.refl _)
  | (with_reducible exact LeO.none _)
  | (with_reducible refine LeO.ite ?_ ?_)
  | (with_reducible refine LeO.bind ?_ (fun _ => ?_))
  | exact ih0 _ _ _ _ _
  | exact spec_liFlows.mono _ _
  | exact LeO.none _
  | refine LeO.ite ?_ ?_
  | refine LeO.bind ?_ (fun _ => ?_)
def spec_liLosses.T6 : Bool × List (List Nat × List Nat) := (true, [([], []), ([0], [0]), ([], []), ([], []), ([2, 3], [2, 3]), ([4], [4]), ([1, 5], [1, 5]), ([], []), ([7], [7]), ([6, 8], [6, 8]), ([9, 6, 0, 1, 2, 3, 4, 5, 6, 7, 8, 9], [9])])
def spec_liLosses.B6 : List Nat := [0, 1, 0, 0, 12, 28, 63, 0, 128, 511, 1023]
theorem spec_liLosses.tab6 : rtab .any (opsOf Try.f64 6) = spec_liLosses.T6 := by kernel_rfl
theorem spec_liLosses.bits6 : waitsOk spec_liLosses.T6.2 spec_liLosses.B6 = true := by kernel_rfl
set_option maxHeartbeats 8000000 in
set_option maxRecDepth 100000 in
theorem spec_liLosses.calls (k : Nat) (A0 : Option Addr) (c0 : Nat) (l0 : List (S45)) (r : List Int) (w : World) (hr0 : Kd.C k45 w A0 l0.length l0) (hc0 : l0.length ≤ c0) (h : spec_liLosses.f k l0 = some r) :
  Calls Try.prog 64 #[.slice A0 l0.length c0] w fun e w' => ∃ v0_ : Value, e = .returned (v0_) ∧ Kd.R (Kd.int .i64) 3 w' w.heap.size (fun _ => True) v0_ r ∧ Below w.heap.size w w' := by
 have hu45 := Try.underlying45
 have hu43 := Try.underlying43
 have HR0 := Aside0.mk hr0
 have HC0 := Aside0.mk hc0
 clear hr0 hc0
 have HB := Aside0.mk (Below.refl w.heap.size w)
 have H : ((spec_liFlows.f k l0).bind fun t454 => (spec_liLosses.l0 k t454 ([] : List Int) l0 (l0.length : Int) 0)) = some r := h
 clear h
 replace H := Option.bind_eq_some_iff.mp H
 obtain ⟨t454, A20, H⟩ := H
 replace H : (spec_liLosses.l0 k t454 ([] : List Int) l0 (l0.length : Int) 0) = some r := H
 have A2 := Aside0.mk A20
 clear A20
 have H' := Aside0.mk H
 clear H
 go_enter Try.func64, Try.ntmps64
 go_wp2_with (first | ((with_reducible refine gate_callee (f := 56) rfl ?_); refine goesL_ (some 9) rfl rfl Try.func56 (by kernel_rfl) rfl #[.slice A0 l0.length c0] rfl (by (try simp only [List.map_toArray, List.map_cons, List.map_nil]); first | done | rfl) ?_; (with_reducible refine (spec_liFlows.calls k _ _ l0 t454 _ ?side1 ?side2 A2.out).mono ?_); (case side1 => repeat (first | exact HR0.out | (with_reducible refine Kd.C_alloc ?_ _) | (with_reducible refine Kd.C_drewN ?_ _) | (with_reducible refine Kd.C_drew ?_))); (case side2 => exact HC0.out); rintro e w3 ⟨v455, rfl, ho0, hb⟩; refine ⟨_, rfl, ?_⟩; have n0_ := Aside0.mk (Kd.R_lower ho0 (below_size (by repeat (first | (with_reducible first | exact HB.out | apply bA_ | apply bN_ | apply b1_) | exact HB.out)))); have n1_ := Aside0.mk (below_step (by repeat (first | (with_reducible first | exact HB.out | apply bA_ | apply bN_ | apply b1_) | exact HB.out)) hb); clear HB; have HO456 := n0_; have HB := n1_; clear n0_ n1_; (try clear hb); (try clear hb2); (try clear hk); (try clear hi); (try clear ho0)))
 go_loopg [4, 12] k (fun kq v4 v12 w' => ∃ (x4_1 : List Int) (x12_1 : Int), v12 = .int .i64 x12_1 ∧ Aside0 (spec_liLosses.l0 kq t454 x4_1 l0 (l0.length : Int) x12_1 = some r) ∧ Aside0 (kq ≤ k) ∧ Aside0 (Kd.R (Kd.int .i64) 3 w' w.heap.size (fun k_ => some k_ ≠ (v4 : Value).ownBlock) v455 t454) ∧ Aside0 (Kd.R (Kd.int .i64) 3 w' w.heap.size (fun k_ => some k_ ≠ (v455 : Value).ownBlock) v4 x4_1) ∧ Aside0 (Below w.heap.size w w'))
 case atStart => exact ⟨(([] : List Int)), (0), (by first | rfl | (simp; done) | (simp [*]; done)), H', ⟨Nat.le_refl _⟩, ⟨by (with_reducible repeat (first | apply Kd.R_alloc | apply Kd.R_drewN | apply Kd.R_drew)); exact Kd.R_mono HO456.out (fun _ hk => (by simp [Value.ownBlock]))⟩, ⟨by first | exact Kd.R_nil _ _ _ _ _ | exact Kd.N_nil _ _ _ _ _ | exact Kd.V_nil _ _ _ _ _ | exact Kd.Q_nil _ _ _ _ _ | exact Kd.S_nil _ _ _ _ _⟩, ⟨by repeat (first | (with_reducible first | exact HB.out | apply bA_ | apply bN_ | apply b1_) | exact HB.out)⟩⟩
 case round =>
  clear H'
  try clear p2
  obtain ⟨x4_1, x12_1, rfl, HA, HK1, HO_3, HO_4, HB⟩ := hrel
  cases gk with
  | zero => exact absurd HA.out (by simp [spec_liLosses.l0])
  | succ k1 =>
   have H := HA.out
   clear HA
   simp only [spec_liLosses.l0] at H
   by_cases c4 : x12_1 < (l0.length : Int)
   case neg =>
    rw [if_neg c4] at H
    have c4b0 : decide (x12_1 < (l0.length : Int)) = false := decide_eq_false c4
    clear c4
    obtain rfl := Option.some.inj H
    go_wp2
    go_ret
    exact ⟨_, by first | rfl | (simp [errW_none, errW_some] <;> rfl) | (simp [*, errW_none, errW_some] <;> rfl), by (with_reducible repeat (first | apply Kd.R_alloc | apply Kd.R_drewN | apply Kd.R_drew)); exact Kd.R_mono HO_4.out (fun _ hk => trivial), by repeat (first | (with_reducible first | exact HB.out | apply bA_ | apply bN_ | apply b1_) | exact HB.out)⟩
   rw [if_pos c4] at H
   have c4b0 : decide (x12_1 < (l0.length : Int)) = true := decide_eq_true c4
   clear c4
   by_cases c5 : 0 ≤ x12_1
   case neg =>
    rw [if_neg c5] at H
    exact absurd H (by simp)
   rw [if_pos c5] at H
   have c5b0 : decide (0 ≤ x12_1) = true := decide_eq_true c5
   clear c5
   by_cases c6 : x12_1 < (l0.length : Int)
   case neg =>
    rw [if_neg c6] at H
    exact absurd H (by simp)
   rw [if_pos c6] at H
   have c6b0 : decide (x12_1 < (l0.length : Int)) = true := decide_eq_true c6
   clear c6
   by_cases c7 : x12_1 < (t454.length : Int)
   case neg =>
    rw [if_neg c7] at H
    exact absurd H (by simp)
   rw [if_pos c7] at H
   have c7b0 : decide (x12_1 < (t454.length : Int)) = true := decide_eq_true c7
   clear c7
   replace H := Option.bind_eq_some_iff.mp H
   obtain ⟨t460, A80, H⟩ := H
   replace H : (if ((rd_T45 l0 x12_1).f0) ≥ 0 then (if 0 ≤ ((rd_T45 l0 x12_1).f0) then (if ((rd_T45 l0 x12_1).f0) < (x4_1.length : Int) then (if x4_1.length < 17592186044416 then (spec_liLosses.l0 k1 t454 (x4_1 ++ [wrap64 ((wrap64 (t460 + ((rd_T45 l0 x12_1).f2))) + (rd x4_1 ((rd_T45 l0 x12_1).f0)))]) l0 (l0.length : Int) (wrap64 (x12_1 + 1))) else (none)) else (none)) else (none)) else (if x4_1.length < 17592186044416 then (spec_liLosses.l0 k1 t454 (x4_1 ++ [wrap64 (t460 + ((rd_T45 l0 x12_1).f2))]) l0 (l0.length : Int) (wrap64 (x12_1 + 1))) else (none))) = some r := H
   have A8 := Aside0.mk A80
   clear A80
   by_cases c9 : ((rd_T45 l0 x12_1).f0) ≥ 0
   case neg =>
    rw [if_neg c9] at H
    have c9b0 : decide (0 ≤ ((rd_T45 l0 x12_1).f0)) = false := decide_eq_false c9
    clear c9
    by_cases c22 : x4_1.length < 17592186044416
    case neg =>
     rw [if_neg c22] at H
     exact absurd H (by simp)
    rw [if_pos c22] at H
    have LMc22 := Aside0.mk c22
    clear c22
    obtain ⟨y465, hy465⟩ : ∃ y_ : List Int, y_ = (x4_1 ++ [wrap64 (t460 + ((rd_T45 l0 x12_1).f2))]) := ⟨_, rfl⟩
    replace H : (spec_liLosses.l0 k1 t454 y465 l0 (l0.length : Int) (wrap64 (x12_1 + 1))) = some r := by first | (rw [hy465]; with_reducible exact H) | (have H2_ := (Option.bind_some _ _).symm.trans H; rw [hy465]; with_reducible exact H2_) | (have H2_ := (Option.bind_some _ _).symm.trans H; with_reducible exact H2_) | with_reducible exact H | (rw [hy465]; exact H) | exact H
    have Ny465 := Aside0.mk hy465
    clear hy465
    have H' := Aside0.mk H
    clear H
    have p457 : 0 ≤ (x12_1 : Int) := of_decide_eq_true (by assumption)
    have q457 : x12_1 < (l0.length : Int) := of_decide_eq_true (by assumption)
    obtain ⟨ad457, e457, hx457_0, hx457_1, hx457_2, hx457_3, hx457_4, hx457_5⟩ := at_T45 HR0.out x12_1 p457 q457
    cases e457
    replace hx457_0 := cl_ HB.out hx457_0
    replace hx457_1 := cl_ HB.out hx457_1
    replace hx457_2 := cl_ HB.out hx457_2
    replace hx457_3 := cl_ HB.out hx457_3
    replace hx457_4 := cl_ HB.out hx457_4
    replace hx457_5 := cl_ HB.out hx457_5
    replace p457 := eq_true p457
    replace q457 := eq_true q457
    try go_wp2_with (first | ((with_reducible refine gate_dst (N := 6) rfl ?_); refine box_event ?hg (N := 6) ?hd (cs := #[.int .i64 0, .int .i64 0, .int .i64 0, .int .i64 0, .int .i64 0, .int .i64 0]) (t := 45) ?hr ?_; (case hd => rfl); (case hg => rfl); (case hr => first | (go_simp; done) | (go_simp; rfl)); intro gb458 hg w23 hbox hb; have n0_ := Aside0.mk (Kd.R_below (by (with_reducible repeat (first | apply Kd.R_alloc | apply Kd.R_drewN | apply Kd.R_drew)); exact HO_3.out) hb); have n1_ := Aside0.mk (Kd.R_below (by (with_reducible repeat (first | apply Kd.R_alloc | apply Kd.R_drewN | apply Kd.R_drew)); exact HO_4.out) hb); have n2_ := Aside0.mk (below_step (by repeat (first | (with_reducible first | exact HB.out | apply bA_ | apply bN_ | apply b1_) | exact HB.out)) hb); have n3_ := Aside0.mk (hbox); have n4_ := Aside0.mk ((by rw [hg]; exact (below_size (by repeat (first | (with_reducible first | exact HB.out | apply bA_ | apply bN_ | apply b1_) | exact HB.out))) : w.heap.size ≤ gb458)); have n5_ := n4_; clear HO_3; clear HO_4; clear HB; have HO_3 := n0_; have HO_4 := n1_; have HB := n2_; have BK458 := n3_; have GW458 := n4_; have GE458 := n5_; clear n0_ n1_ n2_ n3_ n4_ n5_; clear hb hbox hg; obtain ⟨hcz24_0, hcz24_1, hcz24_2, hcz24_3, hcz24_4, hcz24_5, hfz24_0, hfz24_1, hfz24_2, hfz24_3, hfz24_4, hfz24_5⟩ := blk6_ BK458.out))
    have n0_ : Aside0 (Kd.R (Kd.int .i64) 3 ((((((w23.setCell ⟨gb458, 0, none⟩ (.int .i64 ((rd_T45 l0 x12_1).f0))).setCell ⟨gb458, 1, none⟩ (.int .i64 ((rd_T45 l0 x12_1).f1.f0))).setCell ⟨gb458, 2, none⟩ (.int .i64 ((rd_T45 l0 x12_1).f1.f1))).setCell ⟨gb458, 3, none⟩ (.int .i64 ((rd_T45 l0 x12_1).f2))).setCell ⟨gb458, 4, none⟩ (.int .i64 ((rd_T45 l0 x12_1).f3))).setCell ⟨gb458, 5, none⟩ (.int .i64 ((rd_T45 l0 x12_1).f4))) w.heap.size (fun k_ => some k_ ≠ (u4 : Value).ownBlock) v455 t454) := ⟨by (with_reducible repeat (first | apply Kd.R_alloc | apply Kd.R_drewN | apply Kd.R_drew)); exact Kd.R_mono (Kd.R_far (p := ⟨gb458, 5, none⟩) (Kd.R_far (p := ⟨gb458, 4, none⟩) (Kd.R_far (p := ⟨gb458, 3, none⟩) (Kd.R_far (p := ⟨gb458, 2, none⟩) (Kd.R_far (p := ⟨gb458, 1, none⟩) (Kd.R_far (p := ⟨gb458, 0, none⟩) (Kd.R_types HO_3.out BK458.out (by decide)) (fun _ hk => hk.2) (.int .i64 ((rd_T45 l0 x12_1).f0))) (fun _ hk => hk.2) (.int .i64 ((rd_T45 l0 x12_1).f1.f0))) (fun _ hk => hk.2) (.int .i64 ((rd_T45 l0 x12_1).f1.f1))) (fun _ hk => hk.2) (.int .i64 ((rd_T45 l0 x12_1).f2))) (fun _ hk => hk.2) (.int .i64 ((rd_T45 l0 x12_1).f3))) (fun _ hk => hk.2) (.int .i64 ((rd_T45 l0 x12_1).f4))) (fun _ hk => hk.1)⟩
    have n1_ : Aside0 (Kd.R (Kd.int .i64) 3 ((((((w23.setCell ⟨gb458, 0, none⟩ (.int .i64 ((rd_T45 l0 x12_1).f0))).setCell ⟨gb458, 1, none⟩ (.int .i64 ((rd_T45 l0 x12_1).f1.f0))).setCell ⟨gb458, 2, none⟩ (.int .i64 ((rd_T45 l0 x12_1).f1.f1))).setCell ⟨gb458, 3, none⟩ (.int .i64 ((rd_T45 l0 x12_1).f2))).setCell ⟨gb458, 4, none⟩ (.int .i64 ((rd_T45 l0 x12_1).f3))).setCell ⟨gb458, 5, none⟩ (.int .i64 ((rd_T45 l0 x12_1).f4))) w.heap.size (fun k_ => some k_ ≠ (v455 : Value).ownBlock) u4 x4_1) := ⟨by (with_reducible repeat (first | apply Kd.R_alloc | apply Kd.R_drewN | apply Kd.R_drew)); exact Kd.R_mono (Kd.R_far (p := ⟨gb458, 5, none⟩) (Kd.R_far (p := ⟨gb458, 4, none⟩) (Kd.R_far (p := ⟨gb458, 3, none⟩) (Kd.R_far (p := ⟨gb458, 2, none⟩) (Kd.R_far (p := ⟨gb458, 1, none⟩) (Kd.R_far (p := ⟨gb458, 0, none⟩) (Kd.R_types HO_4.out BK458.out (by decide)) (fun _ hk => hk.2) (.int .i64 ((rd_T45 l0 x12_1).f0))) (fun _ hk => hk.2) (.int .i64 ((rd_T45 l0 x12_1).f1.f0))) (fun _ hk => hk.2) (.int .i64 ((rd_T45 l0 x12_1).f1.f1))) (fun _ hk => hk.2) (.int .i64 ((rd_T45 l0 x12_1).f2))) (fun _ hk => hk.2) (.int .i64 ((rd_T45 l0 x12_1).f3))) (fun _ hk => hk.2) (.int .i64 ((rd_T45 l0 x12_1).f4))) (fun _ hk => hk.1)⟩
    have n2_ : Aside0 (((((((w23.setCell ⟨gb458, 0, none⟩ (.int .i64 ((rd_T45 l0 x12_1).f0))).setCell ⟨gb458, 1, none⟩ (.int .i64 ((rd_T45 l0 x12_1).f1.f0))).setCell ⟨gb458, 2, none⟩ (.int .i64 ((rd_T45 l0 x12_1).f1.f1))).setCell ⟨gb458, 3, none⟩ (.int .i64 ((rd_T45 l0 x12_1).f2))).setCell ⟨gb458, 4, none⟩ (.int .i64 ((rd_T45 l0 x12_1).f3))).setCell ⟨gb458, 5, none⟩ (.int .i64 ((rd_T45 l0 x12_1).f4))).heap[gb458]? = some (.cells #[.int .i64 ((rd_T45 l0 x12_1).f0), .int .i64 ((rd_T45 l0 x12_1).f1.f0), .int .i64 ((rd_T45 l0 x12_1).f1.f1), .int .i64 ((rd_T45 l0 x12_1).f2), .int .i64 ((rd_T45 l0 x12_1).f3), .int .i64 ((rd_T45 l0 x12_1).f4)] 45 (0, 0))) := ⟨by (with_reducible repeat (first | refine blk_drewN ?_ _ | refine blk_drew ?_ | refine blk_alloc ?_ _)); refine blk_put (cs := #[.int .i64 ((rd_T45 l0 x12_1).f0), .int .i64 ((rd_T45 l0 x12_1).f1.f0), .int .i64 ((rd_T45 l0 x12_1).f1.f1), .int .i64 ((rd_T45 l0 x12_1).f2), .int .i64 ((rd_T45 l0 x12_1).f3), .int .i64 0]) ?_ 5 _ rfl; (with_reducible repeat (first | refine blk_drewN ?_ _ | refine blk_drew ?_ | refine blk_alloc ?_ _)); refine blk_put (cs := #[.int .i64 ((rd_T45 l0 x12_1).f0), .int .i64 ((rd_T45 l0 x12_1).f1.f0), .int .i64 ((rd_T45 l0 x12_1).f1.f1), .int .i64 ((rd_T45 l0 x12_1).f2), .int .i64 0, .int .i64 0]) ?_ 4 _ rfl; (with_reducible repeat (first | refine blk_drewN ?_ _ | refine blk_drew ?_ | refine blk_alloc ?_ _)); refine blk_put (cs := #[.int .i64 ((rd_T45 l0 x12_1).f0), .int .i64 ((rd_T45 l0 x12_1).f1.f0), .int .i64 ((rd_T45 l0 x12_1).f1.f1), .int .i64 0, .int .i64 0, .int .i64 0]) ?_ 3 _ rfl; (with_reducible repeat (first | refine blk_drewN ?_ _ | refine blk_drew ?_ | refine blk_alloc ?_ _)); refine blk_put (cs := #[.int .i64 ((rd_T45 l0 x12_1).f0), .int .i64 ((rd_T45 l0 x12_1).f1.f0), .int .i64 0, .int .i64 0, .int .i64 0, .int .i64 0]) ?_ 2 _ rfl; (with_reducible repeat (first | refine blk_drewN ?_ _ | refine blk_drew ?_ | refine blk_alloc ?_ _)); refine blk_put (cs := #[.int .i64 ((rd_T45 l0 x12_1).f0), .int .i64 0, .int .i64 0, .int .i64 0, .int .i64 0, .int .i64 0]) ?_ 1 _ rfl; (with_reducible repeat (first | refine blk_drewN ?_ _ | refine blk_drew ?_ | refine blk_alloc ?_ _)); refine blk_put (cs := #[.int .i64 0, .int .i64 0, .int .i64 0, .int .i64 0, .int .i64 0, .int .i64 0]) ?_ 0 _ rfl; (with_reducible repeat (first | refine blk_drewN ?_ _ | refine blk_drew ?_ | refine blk_alloc ?_ _)); exact BK458.out⟩
    have n3_ : Aside0 (Below w.heap.size w ((((((w23.setCell ⟨gb458, 0, none⟩ (.int .i64 ((rd_T45 l0 x12_1).f0))).setCell ⟨gb458, 1, none⟩ (.int .i64 ((rd_T45 l0 x12_1).f1.f0))).setCell ⟨gb458, 2, none⟩ (.int .i64 ((rd_T45 l0 x12_1).f1.f1))).setCell ⟨gb458, 3, none⟩ (.int .i64 ((rd_T45 l0 x12_1).f2))).setCell ⟨gb458, 4, none⟩ (.int .i64 ((rd_T45 l0 x12_1).f3))).setCell ⟨gb458, 5, none⟩ (.int .i64 ((rd_T45 l0 x12_1).f4)))) := ⟨by repeat (first | (with_reducible first | exact HB.out | apply bA_ | apply bN_ | apply b1_ | refine below_set ?_ GE458.out) | exact HB.out)⟩
    (try clear HO_3)
    (try clear HO_4)
    (try clear BK458)
    (try clear HB)
    generalize ((((((w23.setCell ⟨gb458, 0, none⟩ (.int .i64 ((rd_T45 l0 x12_1).f0))).setCell ⟨gb458, 1, none⟩ (.int .i64 ((rd_T45 l0 x12_1).f1.f0))).setCell ⟨gb458, 2, none⟩ (.int .i64 ((rd_T45 l0 x12_1).f1.f1))).setCell ⟨gb458, 3, none⟩ (.int .i64 ((rd_T45 l0 x12_1).f2))).setCell ⟨gb458, 4, none⟩ (.int .i64 ((rd_T45 l0 x12_1).f3))).setCell ⟨gb458, 5, none⟩ (.int .i64 ((rd_T45 l0 x12_1).f4))) = w25 at n0_ n1_ n2_ n3_ ⊢
    have HO_3 := n0_
    have HO_4 := n1_
    have BK458 := n2_
    have HB := n3_
    clear n0_ n1_ n2_ n3_
    have n0_ := Aside0.mk (Kd.R_drew HO_3.out)
    have n1_ := Aside0.mk (Kd.R_drew HO_4.out)
    have n2_ := Aside0.mk (blk_drew BK458.out)
    have n3_ := Aside0.mk (below_drew1 HB.out)
    clear HO_3
    clear HO_4
    clear BK458
    clear HB
    have HO_3 := n0_
    have HO_4 := n1_
    have BK458 := n2_
    have HB := n3_
    clear n0_ n1_ n2_ n3_
    obtain ⟨Ao27, co27, eo27⟩ := Kd.R_slice HO_3.out
    (first | subst eo27 | (injection eo27 with f1_ f2_ f3_; have f4_ := f1_.symm; have f5_ := f3_.symm; clear f1_ f2_ f3_; subst f4_; subst f5_))
    have p459 : 0 ≤ (x12_1 : Int) := of_decide_eq_true (by assumption)
    have q459 : x12_1 < (t454.length : Int) := of_decide_eq_true (by assumption)
    obtain ⟨ad459, e459, hx459_0⟩ := Kd.at_int (Kd.R_reads' HO_3.out).2.2 x12_1 p459 q459
    cases e459
    replace p459 := eq_true p459
    replace q459 := eq_true q459
    refine start_ (n := 11) (S := fun w' => w'.cell? ⟨gb458, 0, none⟩ = some (.int .i64 ((rd_T45 l0 x12_1).f0)) ∧ w'.cell? ⟨gb458, 1, none⟩ = some (.int .i64 ((rd_T45 l0 x12_1).f1.f0)) ∧ w'.cell? ⟨gb458, 2, none⟩ = some (.int .i64 ((rd_T45 l0 x12_1).f1.f1)) ∧ w'.cell? ⟨gb458, 3, none⟩ = some (.int .i64 ((rd_T45 l0 x12_1).f2)) ∧ w'.cell? ⟨gb458, 4, none⟩ = some (.int .i64 ((rd_T45 l0 x12_1).f3)) ∧ w'.cell? ⟨gb458, 5, none⟩ = some (.int .i64 ((rd_T45 l0 x12_1).f4)) ∧ w'.cell? (ad459.add (x12_1).toNat) = some (.int .i64 (rd t454 x12_1))) (ds := []) #[false, false, false, false, false, false, false, false, false, false, false] (by kernel_rfl) rfl rfl ⟨(blk_cell BK458.out 0).trans rfl, (blk_cell BK458.out 1).trans rfl, (blk_cell BK458.out 2).trans rfl, (blk_cell BK458.out 3).trans rfl, (blk_cell BK458.out 4).trans rfl, (blk_cell BK458.out 5).trans rfl, hx459_0⟩ (fun hHeld => ?_); refine with_tabW spec_liLosses.tab6 spec_liLosses.bits6 (fun HT_ HW_ => ?_)
    generalize w25.drew = w26 at HO_3 HO_4 BK458 HB hx459_0 hHeld ⊢
    refine pure_ (i := 0) (N := some 17) (v := ?_) (a' := ?_) #[true, false, false, false, false, false, false, false, false, false, false] rfl rfl (any_of HT_.out (by kernel_rfl)) (fun _ _ _ h => h) (Or.inl ⟨by rfl, ?_⟩) ?_ ?_
    rotate_left
    · intro w'
      go_simp
      with_reducible rfl
    rotate_left
    · simp only [Act.put, List.setIfInBounds_toArray, List.set_cons_zero, List.set_cons_succ, i64_w, i32_w]
      rfl
    refine pure_ (i := 2) (N := some 19) (v := ?_) (a' := ?_) #[true, false, true, false, false, false, false, false, false, false, false] rfl rfl (any_of HT_.out (by kernel_rfl)) (fun _ _ _ h => h) (Or.inl ⟨by rfl, ?_⟩) ?_ ?_
    rotate_left
    · intro w'
      go_simp
      with_reducible rfl
    rotate_left
    · simp only [Act.put, List.setIfInBounds_toArray, List.set_cons_zero, List.set_cons_succ, i64_w, i32_w]
      rfl
    refine pure_ (i := 3) (N := some 20) (v := ?_) (a' := ?_) #[true, false, true, true, false, false, false, false, false, false, false] rfl rfl (any_of HT_.out (by kernel_rfl)) (fun _ _ _ h => h) (Or.inl ⟨by rfl, ?_⟩) ?_ ?_
    rotate_left
    · intro w'
      go_simp
      with_reducible rfl
    rotate_left
    · simp only [Act.put, List.setIfInBounds_toArray, List.set_cons_zero, List.set_cons_succ, i64_w, i32_w]
      rfl
    refine pure_ (i := 4) (N := some 21) (v := ?_) (a' := ?_) #[true, false, true, true, true, false, false, false, false, false, false] rfl rfl (any_of HT_.out (by kernel_rfl)) (fun _ _ _ h => h) (Or.inl ⟨by rfl, ?_⟩) ?_ ?_
    rotate_left
    · intro w'
      go_simp
      with_reducible rfl
    rotate_left
    · simp only [Act.put, List.setIfInBounds_toArray, List.set_cons_zero, List.set_cons_succ, i64_w, i32_w]
      rfl
    refine pure_ (i := 7) (N := some 24) (v := ?_) (a' := ?_) #[true, false, true, true, true, false, false, true, false, false, false] rfl rfl (any_of HT_.out (by kernel_rfl)) (fun _ _ _ h => h) (Or.inl ⟨by rfl, ?_⟩) ?_ ?_
    rotate_left
    · intro w'
      go_simp
      with_reducible rfl
    rotate_left
    · simp only [Act.put, List.setIfInBounds_toArray, List.set_cons_zero, List.set_cons_succ, i64_w, i32_w]
      rfl
    refine take_ (i := 1) (N := some 18) (v := ?_) (a' := ?_) #[true, true, true, true, true, false, false, true, false, false, false] rfl rfl (take_ofW HT_.out HW_.out (by kernel_rfl)) (fun _ _ _ h => h) (Or.inl ⟨by rfl, ?_⟩) hHeld ?_ ?_
    rotate_left
    · rintro w' ⟨s0, s1, s2, s3, s4, s5, s6⟩
      go_simp
      with_reducible rfl
    rotate_left
    · simp only [Act.put, List.setIfInBounds_toArray, List.set_cons_zero, List.set_cons_succ, i64_w, i32_w]
      rfl
    refine take_ (i := 5) (N := some 22) (v := ?_) (a' := ?_) #[true, true, true, true, true, true, false, true, false, false, false] rfl rfl (take_ofW HT_.out HW_.out (by kernel_rfl)) (fun _ _ _ h => h) (Or.inl ⟨by rfl, ?_⟩) hHeld ?_ ?_
    rotate_left
    · rintro w' ⟨s0, s1, s2, s3, s4, s5, s6⟩
      go_simp
      with_reducible rfl
    rotate_left
    · simp only [Act.put, List.setIfInBounds_toArray, List.set_cons_zero, List.set_cons_succ, i64_w, i32_w]
      rfl
    refine take_ (i := 8) (N := some 25) (v := ?_) (a' := ?_) #[true, true, true, true, true, true, false, true, true, false, false] rfl rfl (take_ofW HT_.out HW_.out (by kernel_rfl)) (fun _ _ _ h => h) (Or.inl ⟨by rfl, ?_⟩) hHeld ?_ ?_
    rotate_left
    · rintro w' ⟨s0, s1, s2, s3, s4, s5, s6⟩
      go_simp
      with_reducible rfl
    rotate_left
    · simp only [Act.put, List.setIfInBounds_toArray, List.set_cons_zero, List.set_cons_succ, i64_w, i32_w]
      rfl
    refine one_ (i := 6) (N := some 23) #[true, true, true, true, true, true, true, true, true, false, false] rfl rfl (one_of HT_.out (by kernel_rfl)) (by decide) (fun K hK => ?_)
    refine goes_ Try.func74 (by kernel_rfl) rfl #[.agg #[.int .i64 ((rd_T45 l0 x12_1).f1.f0), .int .i64 ((rd_T45 l0 x12_1).f1.f1)], .int .i64 (rd t454 x12_1)] (by rfl) rfl rfl (by (try simp only [List.map_toArray, List.map_cons, List.map_nil]); first | done | rfl) ?_
    with_reducible refine (spec_hoLoss.calls ((rd_T45 l0 x12_1).f1.f0) ((rd_T45 l0 x12_1).f1.f1) (rd t454 x12_1) t460 _ A8.out).mono ?_
    rintro e w28 ⟨rfl, hb⟩
    have HS6_ := (hb.cell (World.block_lt_of_cell? _ _ (hHeld.2.2.2.2.2.2))).trans (hHeld.2.2.2.2.2.2)
    refine ⟨_, rfl, ?_⟩
    have n0_ := Aside0.mk (Kd.R_below (by (with_reducible repeat (first | apply Kd.R_alloc | apply Kd.R_drewN | apply Kd.R_drew)); exact HO_3.out) hb)
    have n1_ := Aside0.mk (Kd.R_below (by (with_reducible repeat (first | apply Kd.R_alloc | apply Kd.R_drewN | apply Kd.R_drew)); exact HO_4.out) hb)
    have n2_ := Aside0.mk (blk_below (g := gb458) (o := .cells #[.int .i64 ((rd_T45 l0 x12_1).f0), .int .i64 ((rd_T45 l0 x12_1).f1.f0), .int .i64 ((rd_T45 l0 x12_1).f1.f1), .int .i64 ((rd_T45 l0 x12_1).f2), .int .i64 ((rd_T45 l0 x12_1).f3), .int .i64 ((rd_T45 l0 x12_1).f4)] 45 (0, 0)) (by (with_reducible repeat (first | refine blk_drewN ?_ _ | refine blk_drew ?_ | refine blk_alloc ?_ _)); exact BK458.out) hb)
    have n3_ := Aside0.mk (below_step (by repeat (first | (with_reducible first | exact HB.out | apply bA_ | apply bN_ | apply b1_ | refine below_set ?_ GE458.out) | exact HB.out)) hb)
    clear HO_3
    clear HO_4
    clear BK458
    clear HB
    have HO_3 := n0_
    have HO_4 := n1_
    have BK458 := n2_
    have HB := n3_
    clear n0_ n1_ n2_ n3_
    (try clear hb)
    (try clear hb2)
    (try clear hk)
    (try clear hi)
    refine hK.out _ _ ⟨(blk_cell BK458.out 0).trans rfl, (blk_cell BK458.out 1).trans rfl, (blk_cell BK458.out 2).trans rfl, (blk_cell BK458.out 3).trans rfl, (blk_cell BK458.out 4).trans rfl, (blk_cell BK458.out 5).trans rfl, HS6_⟩ (fun hHeld => ?_)
    clear hK K
    refine norm_ (a' := ?_) ?_ ?_
    rotate_left
    · show Act.put _ (some 23) _ = _
      simp only [Act.put, List.setIfInBounds_toArray, List.set_cons_zero, List.set_cons_succ, i64_w, i32_w]
      rfl
    refine pure_ (i := 9) (N := some 26) (v := ?_) (a' := ?_) #[true, true, true, true, true, true, true, true, true, true, false] rfl rfl (any_of HT_.out (by kernel_rfl)) (fun _ _ _ h => h) (Or.inl ⟨by rfl, ?_⟩) ?_ ?_
    rotate_left
    · intro w'
      go_simp
      with_reducible rfl
    rotate_left
    · simp only [Act.put, List.setIfInBounds_toArray, List.set_cons_zero, List.set_cons_succ, i64_w, i32_w]
      rfl
    refine pure_ (i := 10) (N := some 7) (v := ?_) (a' := ?_) #[true, true, true, true, true, true, true, true, true, true, true] rfl rfl (any_of HT_.out (by kernel_rfl)) (fun _ _ _ h => h) (Or.inl ⟨by rfl, ?_⟩) ?_ ?_
    rotate_left
    · intro w'
      go_simp
      with_reducible rfl
    rotate_left
    · simp only [Act.put, List.setIfInBounds_toArray, List.set_cons_zero, List.set_cons_succ, i64_w, i32_w]
      rfl
    refine done_ (done_of HT_.out (by kernel_rfl)) ?_
    obtain ⟨hcz29_0, hcz29_1, hcz29_2, hcz29_3, hcz29_4, hcz29_5, hfz29_0, hfz29_1, hfz29_2, hfz29_3, hfz29_4, hfz29_5⟩ := blk6_ BK458.out
    try go_wp2_with (first | ((with_reducible refine gate_builtin (b := .append) (xs := #[.tmp 37, .tmp 39]) rfl ?_); at_builtin; refine Kd.R_append (Kd.int .i64) (w0 := w) w.heap.size rfl (.tmp 37) (.tmp 39) 31 3 (.int .i64 0) 8 rfl Try.underlying31 info3 rfl (by decide) (by omega) u4 x4_1 (wrap64 (t460 + ((rd_T45 l0 x12_1).f2))) [.int .i64 (wrap64 (t460 + ((rd_T45 l0 x12_1).f2)))] (fun k_ => some k_ ≠ (.slice (some ad459) t454.length co27 : Value).ownBlock) (fun _ => False) rfl rfl ?aP (fun _ hk => hk.elim) ?aF ?aO ?aB ?aS ?aL ?_; (case aP => exact rfl); (case aB => exact (by repeat (first | (with_reducible first | exact HB.out | apply bA_ | apply bN_ | apply b1_ | refine below_set ?_ GE458.out) | exact HB.out))); (case aF => exact (fun k_ hk => Kd.fresh' (Kd.R_lt (by (with_reducible repeat (first | apply Kd.R_alloc | apply Kd.R_drewN | apply Kd.R_drew)); exact HO_3.out)) k_ hk)); (case aO => exact (by (with_reducible repeat (first | apply Kd.R_alloc | apply Kd.R_drewN | apply Kd.R_drew)); exact HO_4.out)); (case aS => exact (below_size (by repeat (first | (with_reducible first | exact HB.out | apply bA_ | apply bN_ | apply b1_ | refine below_set ?_ GE458.out) | exact HB.out)))); (case aL => have := LMc22.out; omega); intro v466 w30 ho hb hg hat; rw [← Ny465.out] at ho; have n0_ := Aside0.mk (Kd.R_after (ok := (fun _ => True)) (by (with_reducible repeat (first | apply Kd.R_alloc | apply Kd.R_drewN | apply Kd.R_drew)); exact Kd.R_mono HO_3.out (fun _ hk => ⟨trivial, hk⟩)) hg hat); have n1_ := Aside0.mk (blk_grown (g := gb458) (o := .cells #[.int .i64 ((rd_T45 l0 x12_1).f0), .int .i64 ((rd_T45 l0 x12_1).f1.f0), .int .i64 ((rd_T45 l0 x12_1).f1.f1), .int .i64 ((rd_T45 l0 x12_1).f2), .int .i64 ((rd_T45 l0 x12_1).f3), .int .i64 ((rd_T45 l0 x12_1).f4)] 45 (0, 0)) (by (with_reducible repeat (first | refine blk_drewN ?_ _ | refine blk_drew ?_ | refine blk_alloc ?_ _)); exact BK458.out) hg (Kd.R_ne HO_4.out BK458.out (by decide))); have n2_ := Aside0.mk (hb); have n3_ := Aside0.mk (ho); clear HO_3; clear BK458; clear HB; clear HO_4; have HO_3 := n0_; have BK458 := n1_; have HB := n2_; have HO467 := n3_; clear n0_ n1_ n2_ n3_; clear ho hb hg hat))
    go_roundg k1
    case measure => have := HK1.out; omega
    case rel => exact ⟨(y465), (wrap64 (x12_1 + 1)), (by first | rfl | (simp; done) | (simp [*]; done)), H', ⟨by have := HK1.out; omega⟩, ⟨by (with_reducible repeat (first | apply Kd.R_alloc | apply Kd.R_drewN | apply Kd.R_drew)); exact Kd.R_mono HO_3.out (fun _ hk => hk.2)⟩, ⟨by (with_reducible repeat (first | apply Kd.R_alloc | apply Kd.R_drewN | apply Kd.R_drew)); exact HO467.out⟩, ⟨by repeat (first | (with_reducible first | exact HB.out | apply bA_ | apply bN_ | apply b1_ | refine below_set ?_ GE458.out) | exact HB.out)⟩⟩
   rw [if_pos c9] at H
   have c9b0 : decide (0 ≤ ((rd_T45 l0 x12_1).f0)) = true := decide_eq_true c9
   clear c9
   by_cases c10 : 0 ≤ ((rd_T45 l0 x12_1).f0)
   case neg =>
    rw [if_neg c10] at H
    exact absurd H (by simp)
   rw [if_pos c10] at H
   have c10b0 : decide (0 ≤ ((rd_T45 l0 x12_1).f0)) = true := decide_eq_true c10
   clear c10
   by_cases c11 : ((rd_T45 l0 x12_1).f0) < (x4_1.length : Int)
   case neg =>
    rw [if_neg c11] at H
    exact absurd H (by simp)
   rw [if_pos c11] at H
   have c11b0 : decide (((rd_T45 l0 x12_1).f0) < (x4_1.length : Int)) = true := decide_eq_true c11
   clear c11
   by_cases c12 : x4_1.length < 17592186044416
   case neg =>
    rw [if_neg c12] at H
    exact absurd H (by simp)
   rw [if_pos c12] at H
   have LMc12 := Aside0.mk c12
   clear c12
   obtain ⟨y462, hy462⟩ : ∃ y_ : List Int, y_ = (x4_1 ++ [wrap64 ((wrap64 (t460 + ((rd_T45 l0 x12_1).f2))) + (rd x4_1 ((rd_T45 l0 x12_1).f0)))]) := ⟨_, rfl⟩
   replace H : (spec_liLosses.l0 k1 t454 y462 l0 (l0.length : Int) (wrap64 (x12_1 + 1))) = some r := by first | (rw [hy462]; with_reducible exact H) | (have H2_ := (Option.bind_some _ _).symm.trans H; rw [hy462]; with_reducible exact H2_) | (have H2_ := (Option.bind_some _ _).symm.trans H; with_reducible exact H2_) | with_reducible exact H | (rw [hy462]; exact H) | exact H
   have Ny462 := Aside0.mk hy462
   clear hy462
   have H' := Aside0.mk H
   clear H
   have p457 : 0 ≤ (x12_1 : Int) := of_decide_eq_true (by assumption)
   have q457 : x12_1 < (l0.length : Int) := of_decide_eq_true (by assumption)
   obtain ⟨ad457, e457, hx457_0, hx457_1, hx457_2, hx457_3, hx457_4, hx457_5⟩ := at_T45 HR0.out x12_1 p457 q457
   cases e457
   replace hx457_0 := cl_ HB.out hx457_0
   replace hx457_1 := cl_ HB.out hx457_1
   replace hx457_2 := cl_ HB.out hx457_2
   replace hx457_3 := cl_ HB.out hx457_3
   replace hx457_4 := cl_ HB.out hx457_4
   replace hx457_5 := cl_ HB.out hx457_5
   replace p457 := eq_true p457
   replace q457 := eq_true q457
   try go_wp2_with (first | ((with_reducible refine gate_dst (N := 6) rfl ?_); refine box_event ?hg (N := 6) ?hd (cs := #[.int .i64 0, .int .i64 0, .int .i64 0, .int .i64 0, .int .i64 0, .int .i64 0]) (t := 45) ?hr ?_; (case hd => rfl); (case hg => rfl); (case hr => first | (go_simp; done) | (go_simp; rfl)); intro gb458 hg w13 hbox hb; have n0_ := Aside0.mk (Kd.R_below (by (with_reducible repeat (first | apply Kd.R_alloc | apply Kd.R_drewN | apply Kd.R_drew)); exact HO_3.out) hb); have n1_ := Aside0.mk (Kd.R_below (by (with_reducible repeat (first | apply Kd.R_alloc | apply Kd.R_drewN | apply Kd.R_drew)); exact HO_4.out) hb); have n2_ := Aside0.mk (below_step (by repeat (first | (with_reducible first | exact HB.out | apply bA_ | apply bN_ | apply b1_) | exact HB.out)) hb); have n3_ := Aside0.mk (hbox); have n4_ := Aside0.mk ((by rw [hg]; exact (below_size (by repeat (first | (with_reducible first | exact HB.out | apply bA_ | apply bN_ | apply b1_) | exact HB.out))) : w.heap.size ≤ gb458)); have n5_ := n4_; clear HO_3; clear HO_4; clear HB; have HO_3 := n0_; have HO_4 := n1_; have HB := n2_; have BK458 := n3_; have GW458 := n4_; have GE458 := n5_; clear n0_ n1_ n2_ n3_ n4_ n5_; clear hb hbox hg; obtain ⟨hcz14_0, hcz14_1, hcz14_2, hcz14_3, hcz14_4, hcz14_5, hfz14_0, hfz14_1, hfz14_2, hfz14_3, hfz14_4, hfz14_5⟩ := blk6_ BK458.out))
   have n0_ : Aside0 (Kd.R (Kd.int .i64) 3 ((((((w13.setCell ⟨gb458, 0, none⟩ (.int .i64 ((rd_T45 l0 x12_1).f0))).setCell ⟨gb458, 1, none⟩ (.int .i64 ((rd_T45 l0 x12_1).f1.f0))).setCell ⟨gb458, 2, none⟩ (.int .i64 ((rd_T45 l0 x12_1).f1.f1))).setCell ⟨gb458, 3, none⟩ (.int .i64 ((rd_T45 l0 x12_1).f2))).setCell ⟨gb458, 4, none⟩ (.int .i64 ((rd_T45 l0 x12_1).f3))).setCell ⟨gb458, 5, none⟩ (.int .i64 ((rd_T45 l0 x12_1).f4))) w.heap.size (fun k_ => some k_ ≠ (u4 : Value).ownBlock) v455 t454) := ⟨by (with_reducible repeat (first | apply Kd.R_alloc | apply Kd.R_drewN | apply Kd.R_drew)); exact Kd.R_mono (Kd.R_far (p := ⟨gb458, 5, none⟩) (Kd.R_far (p := ⟨gb458, 4, none⟩) (Kd.R_far (p := ⟨gb458, 3, none⟩) (Kd.R_far (p := ⟨gb458, 2, none⟩) (Kd.R_far (p := ⟨gb458, 1, none⟩) (Kd.R_far (p := ⟨gb458, 0, none⟩) (Kd.R_types HO_3.out BK458.out (by decide)) (fun _ hk => hk.2) (.int .i64 ((rd_T45 l0 x12_1).f0))) (fun _ hk => hk.2) (.int .i64 ((rd_T45 l0 x12_1).f1.f0))) (fun _ hk => hk.2) (.int .i64 ((rd_T45 l0 x12_1).f1.f1))) (fun _ hk => hk.2) (.int .i64 ((rd_T45 l0 x12_1).f2))) (fun _ hk => hk.2) (.int .i64 ((rd_T45 l0 x12_1).f3))) (fun _ hk => hk.2) (.int .i64 ((rd_T45 l0 x12_1).f4))) (fun _ hk => hk.1)⟩
   have n1_ : Aside0 (Kd.R (Kd.int .i64) 3 ((((((w13.setCell ⟨gb458, 0, none⟩ (.int .i64 ((rd_T45 l0 x12_1).f0))).setCell ⟨gb458, 1, none⟩ (.int .i64 ((rd_T45 l0 x12_1).f1.f0))).setCell ⟨gb458, 2, none⟩ (.int .i64 ((rd_T45 l0 x12_1).f1.f1))).setCell ⟨gb458, 3, none⟩ (.int .i64 ((rd_T45 l0 x12_1).f2))).setCell ⟨gb458, 4, none⟩ (.int .i64 ((rd_T45 l0 x12_1).f3))).setCell ⟨gb458, 5, none⟩ (.int .i64 ((rd_T45 l0 x12_1).f4))) w.heap.size (fun k_ => some k_ ≠ (v455 : Value).ownBlock) u4 x4_1) := ⟨by (with_reducible repeat (first | apply Kd.R_alloc | apply Kd.R_drewN | apply Kd.R_drew)); exact Kd.R_mono (Kd.R_far (p := ⟨gb458, 5, none⟩) (Kd.R_far (p := ⟨gb458, 4, none⟩) (Kd.R_far (p := ⟨gb458, 3, none⟩) (Kd.R_far (p := ⟨gb458, 2, none⟩) (Kd.R_far (p := ⟨gb458, 1, none⟩) (Kd.R_far (p := ⟨gb458, 0, none⟩) (Kd.R_types HO_4.out BK458.out (by decide)) (fun _ hk => hk.2) (.int .i64 ((rd_T45 l0 x12_1).f0))) (fun _ hk => hk.2) (.int .i64 ((rd_T45 l0 x12_1).f1.f0))) (fun _ hk => hk.2) (.int .i64 ((rd_T45 l0 x12_1).f1.f1))) (fun _ hk => hk.2) (.int .i64 ((rd_T45 l0 x12_1).f2))) (fun _ hk => hk.2) (.int .i64 ((rd_T45 l0 x12_1).f3))) (fun _ hk => hk.2) (.int .i64 ((rd_T45 l0 x12_1).f4))) (fun _ hk => hk.1)⟩
   have n2_ : Aside0 (((((((w13.setCell ⟨gb458, 0, none⟩ (.int .i64 ((rd_T45 l0 x12_1).f0))).setCell ⟨gb458, 1, none⟩ (.int .i64 ((rd_T45 l0 x12_1).f1.f0))).setCell ⟨gb458, 2, none⟩ (.int .i64 ((rd_T45 l0 x12_1).f1.f1))).setCell ⟨gb458, 3, none⟩ (.int .i64 ((rd_T45 l0 x12_1).f2))).setCell ⟨gb458, 4, none⟩ (.int .i64 ((rd_T45 l0 x12_1).f3))).setCell ⟨gb458, 5, none⟩ (.int .i64 ((rd_T45 l0 x12_1).f4))).heap[gb458]? = some (.cells #[.int .i64 ((rd_T45 l0 x12_1).f0), .int .i64 ((rd_T45 l0 x12_1).f1.f0), .int .i64 ((rd_T45 l0 x12_1).f1.f1), .int .i64 ((rd_T45 l0 x12_1).f2), .int .i64 ((rd_T45 l0 x12_1).f3), .int .i64 ((rd_T45 l0 x12_1).f4)] 45 (0, 0))) := ⟨by (with_reducible repeat (first | refine blk_drewN ?_ _ | refine blk_drew ?_ | refine blk_alloc ?_ _)); refine blk_put (cs := #[.int .i64 ((rd_T45 l0 x12_1).f0), .int .i64 ((rd_T45 l0 x12_1).f1.f0), .int .i64 ((rd_T45 l0 x12_1).f1.f1), .int .i64 ((rd_T45 l0 x12_1).f2), .int .i64 ((rd_T45 l0 x12_1).f3), .int .i64 0]) ?_ 5 _ rfl; (with_reducible repeat (first | refine blk_drewN ?_ _ | refine blk_drew ?_ | refine blk_alloc ?_ _)); refine blk_put (cs := #[.int .i64 ((rd_T45 l0 x12_1).f0), .int .i64 ((rd_T45 l0 x12_1).f1.f0), .int .i64 ((rd_T45 l0 x12_1).f1.f1), .int .i64 ((rd_T45 l0 x12_1).f2), .int .i64 0, .int .i64 0]) ?_ 4 _ rfl; (with_reducible repeat (first | refine blk_drewN ?_ _ | refine blk_drew ?_ | refine blk_alloc ?_ _)); refine blk_put (cs := #[.int .i64 ((rd_T45 l0 x12_1).f0), .int .i64 ((rd_T45 l0 x12_1).f1.f0), .int .i64 ((rd_T45 l0 x12_1).f1.f1), .int .i64 0, .int .i64 0, .int .i64 0]) ?_ 3 _ rfl; (with_reducible repeat (first | refine blk_drewN ?_ _ | refine blk_drew ?_ | refine blk_alloc ?_ _)); refine blk_put (cs := #[.int .i64 ((rd_T45 l0 x12_1).f0), .int .i64 ((rd_T45 l0 x12_1).f1.f0), .int .i64 0, .int .i64 0, .int .i64 0, .int .i64 0]) ?_ 2 _ rfl; (with_reducible repeat (first | refine blk_drewN ?_ _ | refine blk_drew ?_ | refine blk_alloc ?_ _)); refine blk_put (cs := #[.int .i64 ((rd_T45 l0 x12_1).f0), .int .i64 0, .int .i64 0, .int .i64 0, .int .i64 0, .int .i64 0]) ?_ 1 _ rfl; (with_reducible repeat (first | refine blk_drewN ?_ _ | refine blk_drew ?_ | refine blk_alloc ?_ _)); refine blk_put (cs := #[.int .i64 0, .int .i64 0, .int .i64 0, .int .i64 0, .int .i64 0, .int .i64 0]) ?_ 0 _ rfl; (with_reducible repeat (first | refine blk_drewN ?_ _ | refine blk_drew ?_ | refine blk_alloc ?_ _)); exact BK458.out⟩
   have n3_ : Aside0 (Below w.heap.size w ((((((w13.setCell ⟨gb458, 0, none⟩ (.int .i64 ((rd_T45 l0 x12_1).f0))).setCell ⟨gb458, 1, none⟩ (.int .i64 ((rd_T45 l0 x12_1).f1.f0))).setCell ⟨gb458, 2, none⟩ (.int .i64 ((rd_T45 l0 x12_1).f1.f1))).setCell ⟨gb458, 3, none⟩ (.int .i64 ((rd_T45 l0 x12_1).f2))).setCell ⟨gb458, 4, none⟩ (.int .i64 ((rd_T45 l0 x12_1).f3))).setCell ⟨gb458, 5, none⟩ (.int .i64 ((rd_T45 l0 x12_1).f4)))) := ⟨by repeat (first | (with_reducible first | exact HB.out | apply bA_ | apply bN_ | apply b1_ | refine below_set ?_ GE458.out) | exact HB.out)⟩
   (try clear HO_3)
   (try clear HO_4)
   (try clear BK458)
   (try clear HB)
   generalize ((((((w13.setCell ⟨gb458, 0, none⟩ (.int .i64 ((rd_T45 l0 x12_1).f0))).setCell ⟨gb458, 1, none⟩ (.int .i64 ((rd_T45 l0 x12_1).f1.f0))).setCell ⟨gb458, 2, none⟩ (.int .i64 ((rd_T45 l0 x12_1).f1.f1))).setCell ⟨gb458, 3, none⟩ (.int .i64 ((rd_T45 l0 x12_1).f2))).setCell ⟨gb458, 4, none⟩ (.int .i64 ((rd_T45 l0 x12_1).f3))).setCell ⟨gb458, 5, none⟩ (.int .i64 ((rd_T45 l0 x12_1).f4))) = w15 at n0_ n1_ n2_ n3_ ⊢
   have HO_3 := n0_
   have HO_4 := n1_
   have BK458 := n2_
   have HB := n3_
   clear n0_ n1_ n2_ n3_
   have n0_ := Aside0.mk (Kd.R_drew HO_3.out)
   have n1_ := Aside0.mk (Kd.R_drew HO_4.out)
   have n2_ := Aside0.mk (blk_drew BK458.out)
   have n3_ := Aside0.mk (below_drew1 HB.out)
   clear HO_3
   clear HO_4
   clear BK458
   clear HB
   have HO_3 := n0_
   have HO_4 := n1_
   have BK458 := n2_
   have HB := n3_
   clear n0_ n1_ n2_ n3_
   obtain ⟨Ao17, co17, eo17⟩ := Kd.R_slice HO_3.out
   (first | subst eo17 | (injection eo17 with f1_ f2_ f3_; have f4_ := f1_.symm; have f5_ := f3_.symm; clear f1_ f2_ f3_; subst f4_; subst f5_))
   have p459 : 0 ≤ (x12_1 : Int) := of_decide_eq_true (by assumption)
   have q459 : x12_1 < (t454.length : Int) := of_decide_eq_true (by assumption)
   obtain ⟨ad459, e459, hx459_0⟩ := Kd.at_int (Kd.R_reads' HO_3.out).2.2 x12_1 p459 q459
   cases e459
   replace p459 := eq_true p459
   replace q459 := eq_true q459
   refine start_ (n := 11) (S := fun w' => w'.cell? ⟨gb458, 0, none⟩ = some (.int .i64 ((rd_T45 l0 x12_1).f0)) ∧ w'.cell? ⟨gb458, 1, none⟩ = some (.int .i64 ((rd_T45 l0 x12_1).f1.f0)) ∧ w'.cell? ⟨gb458, 2, none⟩ = some (.int .i64 ((rd_T45 l0 x12_1).f1.f1)) ∧ w'.cell? ⟨gb458, 3, none⟩ = some (.int .i64 ((rd_T45 l0 x12_1).f2)) ∧ w'.cell? ⟨gb458, 4, none⟩ = some (.int .i64 ((rd_T45 l0 x12_1).f3)) ∧ w'.cell? ⟨gb458, 5, none⟩ = some (.int .i64 ((rd_T45 l0 x12_1).f4)) ∧ w'.cell? (ad459.add (x12_1).toNat) = some (.int .i64 (rd t454 x12_1))) (ds := []) #[false, false, false, false, false, false, false, false, false, false, false] (by kernel_rfl) rfl rfl ⟨(blk_cell BK458.out 0).trans rfl, (blk_cell BK458.out 1).trans rfl, (blk_cell BK458.out 2).trans rfl, (blk_cell BK458.out 3).trans rfl, (blk_cell BK458.out 4).trans rfl, (blk_cell BK458.out 5).trans rfl, hx459_0⟩ (fun hHeld => ?_); refine with_tabW spec_liLosses.tab6 spec_liLosses.bits6 (fun HT_ HW_ => ?_)
   generalize w15.drew = w16 at HO_3 HO_4 BK458 HB hx459_0 hHeld ⊢
   refine pure_ (i := 0) (N := some 17) (v := ?_) (a' := ?_) #[true, false, false, false, false, false, false, false, false, false, false] rfl rfl (any_of HT_.out (by kernel_rfl)) (fun _ _ _ h => h) (Or.inl ⟨by rfl, ?_⟩) ?_ ?_
   rotate_left
   · intro w'
     go_simp
     with_reducible rfl
   rotate_left
   · simp only [Act.put, List.setIfInBounds_toArray, List.set_cons_zero, List.set_cons_succ, i64_w, i32_w]
     rfl
   refine pure_ (i := 2) (N := some 19) (v := ?_) (a' := ?_) #[true, false, true, false, false, false, false, false, false, false, false] rfl rfl (any_of HT_.out (by kernel_rfl)) (fun _ _ _ h => h) (Or.inl ⟨by rfl, ?_⟩) ?_ ?_
   rotate_left
   · intro w'
     go_simp
     with_reducible rfl
   rotate_left
   · simp only [Act.put, List.setIfInBounds_toArray, List.set_cons_zero, List.set_cons_succ, i64_w, i32_w]
     rfl
   refine pure_ (i := 3) (N := some 20) (v := ?_) (a' := ?_) #[true, false, true, true, false, false, false, false, false, false, false] rfl rfl (any_of HT_.out (by kernel_rfl)) (fun _ _ _ h => h) (Or.inl ⟨by rfl, ?_⟩) ?_ ?_
   rotate_left
   · intro w'
     go_simp
     with_reducible rfl
   rotate_left
   · simp only [Act.put, List.setIfInBounds_toArray, List.set_cons_zero, List.set_cons_succ, i64_w, i32_w]
     rfl
   refine pure_ (i := 4) (N := some 21) (v := ?_) (a' := ?_) #[true, false, true, true, true, false, false, false, false, false, false] rfl rfl (any_of HT_.out (by kernel_rfl)) (fun _ _ _ h => h) (Or.inl ⟨by rfl, ?_⟩) ?_ ?_
   rotate_left
   · intro w'
     go_simp
     with_reducible rfl
   rotate_left
   · simp only [Act.put, List.setIfInBounds_toArray, List.set_cons_zero, List.set_cons_succ, i64_w, i32_w]
     rfl
   refine pure_ (i := 7) (N := some 24) (v := ?_) (a' := ?_) #[true, false, true, true, true, false, false, true, false, false, false] rfl rfl (any_of HT_.out (by kernel_rfl)) (fun _ _ _ h => h) (Or.inl ⟨by rfl, ?_⟩) ?_ ?_
   rotate_left
   · intro w'
     go_simp
     with_reducible rfl
   rotate_left
   · simp only [Act.put, List.setIfInBounds_toArray, List.set_cons_zero, List.set_cons_succ, i64_w, i32_w]
     rfl
   refine take_ (i := 1) (N := some 18) (v := ?_) (a' := ?_) #[true, true, true, true, true, false, false, true, false, false, false] rfl rfl (take_ofW HT_.out HW_.out (by kernel_rfl)) (fun _ _ _ h => h) (Or.inl ⟨by rfl, ?_⟩) hHeld ?_ ?_
   rotate_left
   · rintro w' ⟨s0, s1, s2, s3, s4, s5, s6⟩
     go_simp
     with_reducible rfl
   rotate_left
   · simp only [Act.put, List.setIfInBounds_toArray, List.set_cons_zero, List.set_cons_succ, i64_w, i32_w]
     rfl
   refine take_ (i := 5) (N := some 22) (v := ?_) (a' := ?_) #[true, true, true, true, true, true, false, true, false, false, false] rfl rfl (take_ofW HT_.out HW_.out (by kernel_rfl)) (fun _ _ _ h => h) (Or.inl ⟨by rfl, ?_⟩) hHeld ?_ ?_
   rotate_left
   · rintro w' ⟨s0, s1, s2, s3, s4, s5, s6⟩
     go_simp
     with_reducible rfl
   rotate_left
   · simp only [Act.put, List.setIfInBounds_toArray, List.set_cons_zero, List.set_cons_succ, i64_w, i32_w]
     rfl
   refine take_ (i := 8) (N := some 25) (v := ?_) (a' := ?_) #[true, true, true, true, true, true, false, true, true, false, false] rfl rfl (take_ofW HT_.out HW_.out (by kernel_rfl)) (fun _ _ _ h => h) (Or.inl ⟨by rfl, ?_⟩) hHeld ?_ ?_
   rotate_left
   · rintro w' ⟨s0, s1, s2, s3, s4, s5, s6⟩
     go_simp
     with_reducible rfl
   rotate_left
   · simp only [Act.put, List.setIfInBounds_toArray, List.set_cons_zero, List.set_cons_succ, i64_w, i32_w]
     rfl
   refine one_ (i := 6) (N := some 23) #[true, true, true, true, true, true, true, true, true, false, false] rfl rfl (one_of HT_.out (by kernel_rfl)) (by decide) (fun K hK => ?_)
   refine goes_ Try.func74 (by kernel_rfl) rfl #[.agg #[.int .i64 ((rd_T45 l0 x12_1).f1.f0), .int .i64 ((rd_T45 l0 x12_1).f1.f1)], .int .i64 (rd t454 x12_1)] (by rfl) rfl rfl (by (try simp only [List.map_toArray, List.map_cons, List.map_nil]); first | done | rfl) ?_
   with_reducible refine (spec_hoLoss.calls ((rd_T45 l0 x12_1).f1.f0) ((rd_T45 l0 x12_1).f1.f1) (rd t454 x12_1) t460 _ A8.out).mono ?_
   rintro e w18 ⟨rfl, hb⟩
   have HS6_ := (hb.cell (World.block_lt_of_cell? _ _ (hHeld.2.2.2.2.2.2))).trans (hHeld.2.2.2.2.2.2)
   refine ⟨_, rfl, ?_⟩
   have n0_ := Aside0.mk (Kd.R_below (by (with_reducible repeat (first | apply Kd.R_alloc | apply Kd.R_drewN | apply Kd.R_drew)); exact HO_3.out) hb)
   have n1_ := Aside0.mk (Kd.R_below (by (with_reducible repeat (first | apply Kd.R_alloc | apply Kd.R_drewN | apply Kd.R_drew)); exact HO_4.out) hb)
   have n2_ := Aside0.mk (blk_below (g := gb458) (o := .cells #[.int .i64 ((rd_T45 l0 x12_1).f0), .int .i64 ((rd_T45 l0 x12_1).f1.f0), .int .i64 ((rd_T45 l0 x12_1).f1.f1), .int .i64 ((rd_T45 l0 x12_1).f2), .int .i64 ((rd_T45 l0 x12_1).f3), .int .i64 ((rd_T45 l0 x12_1).f4)] 45 (0, 0)) (by (with_reducible repeat (first | refine blk_drewN ?_ _ | refine blk_drew ?_ | refine blk_alloc ?_ _)); exact BK458.out) hb)
   have n3_ := Aside0.mk (below_step (by repeat (first | (with_reducible first | exact HB.out | apply bA_ | apply bN_ | apply b1_ | refine below_set ?_ GE458.out) | exact HB.out)) hb)
   clear HO_3
   clear HO_4
   clear BK458
   clear HB
   have HO_3 := n0_
   have HO_4 := n1_
   have BK458 := n2_
   have HB := n3_
   clear n0_ n1_ n2_ n3_
   (try clear hb)
   (try clear hb2)
   (try clear hk)
   (try clear hi)
   refine hK.out _ _ ⟨(blk_cell BK458.out 0).trans rfl, (blk_cell BK458.out 1).trans rfl, (blk_cell BK458.out 2).trans rfl, (blk_cell BK458.out 3).trans rfl, (blk_cell BK458.out 4).trans rfl, (blk_cell BK458.out 5).trans rfl, HS6_⟩ (fun hHeld => ?_)
   clear hK K
   refine norm_ (a' := ?_) ?_ ?_
   rotate_left
   · show Act.put _ (some 23) _ = _
     simp only [Act.put, List.setIfInBounds_toArray, List.set_cons_zero, List.set_cons_succ, i64_w, i32_w]
     rfl
   refine pure_ (i := 9) (N := some 26) (v := ?_) (a' := ?_) #[true, true, true, true, true, true, true, true, true, true, false] rfl rfl (any_of HT_.out (by kernel_rfl)) (fun _ _ _ h => h) (Or.inl ⟨by rfl, ?_⟩) ?_ ?_
   rotate_left
   · intro w'
     go_simp
     with_reducible rfl
   rotate_left
   · simp only [Act.put, List.setIfInBounds_toArray, List.set_cons_zero, List.set_cons_succ, i64_w, i32_w]
     rfl
   refine pure_ (i := 10) (N := some 7) (v := ?_) (a' := ?_) #[true, true, true, true, true, true, true, true, true, true, true] rfl rfl (any_of HT_.out (by kernel_rfl)) (fun _ _ _ h => h) (Or.inl ⟨by rfl, ?_⟩) ?_ ?_
   rotate_left
   · intro w'
     go_simp
     with_reducible rfl
   rotate_left
   · simp only [Act.put, List.setIfInBounds_toArray, List.set_cons_zero, List.set_cons_succ, i64_w, i32_w]
     rfl
   refine done_ (done_of HT_.out (by kernel_rfl)) ?_
   obtain ⟨hcz19_0, hcz19_1, hcz19_2, hcz19_3, hcz19_4, hcz19_5, hfz19_0, hfz19_1, hfz19_2, hfz19_3, hfz19_4, hfz19_5⟩ := blk6_ BK458.out
   obtain ⟨Ao20, co20, eo20⟩ := Kd.R_slice HO_4.out
   subst eo20
   have p461 : 0 ≤ (((rd_T45 l0 x12_1).f0) : Int) := of_decide_eq_true (by assumption)
   have q461 : ((rd_T45 l0 x12_1).f0) < (x4_1.length : Int) := of_decide_eq_true (by assumption)
   obtain ⟨ad461, e461, hx461_0⟩ := Kd.at_int (Kd.R_reads' HO_4.out).2.2 ((rd_T45 l0 x12_1).f0) p461 q461
   cases e461
   replace p461 := eq_true p461
   replace q461 := eq_true q461
   try go_wp2_with (first | ((with_reducible refine gate_builtin (b := .append) (xs := #[.tmp 37, .tmp 39]) rfl ?_); at_builtin; refine Kd.R_append (Kd.int .i64) (w0 := w) w.heap.size rfl (.tmp 37) (.tmp 39) 31 3 (.int .i64 0) 8 rfl Try.underlying31 info3 rfl (by decide) (by omega) (.slice (some ad461) x4_1.length co20) x4_1 (wrap64 ((wrap64 (t460 + ((rd_T45 l0 x12_1).f2))) + (rd x4_1 ((rd_T45 l0 x12_1).f0)))) [.int .i64 (wrap64 ((wrap64 (t460 + ((rd_T45 l0 x12_1).f2))) + (rd x4_1 ((rd_T45 l0 x12_1).f0))))] (fun k_ => some k_ ≠ (.slice (some ad459) t454.length co17 : Value).ownBlock) (fun _ => False) rfl rfl ?aP (fun _ hk => hk.elim) ?aF ?aO ?aB ?aS ?aL ?_; (case aP => exact rfl); (case aB => exact (by repeat (first | (with_reducible first | exact HB.out | apply bA_ | apply bN_ | apply b1_ | refine below_set ?_ GE458.out) | exact HB.out))); (case aF => exact (fun k_ hk => Kd.fresh' (Kd.R_lt (by (with_reducible repeat (first | apply Kd.R_alloc | apply Kd.R_drewN | apply Kd.R_drew)); exact HO_3.out)) k_ hk)); (case aO => exact (by (with_reducible repeat (first | apply Kd.R_alloc | apply Kd.R_drewN | apply Kd.R_drew)); exact HO_4.out)); (case aS => exact (below_size (by repeat (first | (with_reducible first | exact HB.out | apply bA_ | apply bN_ | apply b1_ | refine below_set ?_ GE458.out) | exact HB.out)))); (case aL => have := LMc12.out; omega); intro v463 w21 ho hb hg hat; rw [← Ny462.out] at ho; have n0_ := Aside0.mk (Kd.R_after (ok := (fun _ => True)) (by (with_reducible repeat (first | apply Kd.R_alloc | apply Kd.R_drewN | apply Kd.R_drew)); exact Kd.R_mono HO_3.out (fun _ hk => ⟨trivial, hk⟩)) hg hat); have n1_ := Aside0.mk (blk_grown (g := gb458) (o := .cells #[.int .i64 ((rd_T45 l0 x12_1).f0), .int .i64 ((rd_T45 l0 x12_1).f1.f0), .int .i64 ((rd_T45 l0 x12_1).f1.f1), .int .i64 ((rd_T45 l0 x12_1).f2), .int .i64 ((rd_T45 l0 x12_1).f3), .int .i64 ((rd_T45 l0 x12_1).f4)] 45 (0, 0)) (by (with_reducible repeat (first | refine blk_drewN ?_ _ | refine blk_drew ?_ | refine blk_alloc ?_ _)); exact BK458.out) hg (Kd.R_ne HO_4.out BK458.out (by decide))); have n2_ := Aside0.mk (hb); have n3_ := Aside0.mk (ho); clear HO_3; clear BK458; clear HB; clear HO_4; have HO_3 := n0_; have BK458 := n1_; have HB := n2_; have HO464 := n3_; clear n0_ n1_ n2_ n3_; clear ho hb hg hat))
   go_roundg k1
   case measure => have := HK1.out; omega
   case rel => exact ⟨(y462), (wrap64 (x12_1 + 1)), (by first | rfl | (simp; done) | (simp [*]; done)), H', ⟨by have := HK1.out; omega⟩, ⟨by (with_reducible repeat (first | apply Kd.R_alloc | apply Kd.R_drewN | apply Kd.R_drew)); exact Kd.R_mono HO_3.out (fun _ hk => hk.2)⟩, ⟨by (with_reducible repeat (first | apply Kd.R_alloc | apply Kd.R_drewN | apply Kd.R_drew)); exact HO464.out⟩, ⟨by repeat (first | (with_reducible first | exact HB.out | apply bA_ | apply bN_ | apply b1_ | refine below_set ?_ GE458.out) | exact HB.out)⟩⟩

/-! ### impl_upTo: function 82 -/
def impl_upTo.f (a0 : Int) (a1 : Int) : Option (Int) := if a1 = 0 then (none) else (some (wrap64 (Int.tdiv (wrap64 ((wrap64 (a0 + a1)) - 1)) a1)))
set_option maxHeartbeats 8000000 in
set_option maxRecDepth 100000 in
theorem impl_upTo.calls (a0 : Int) (a1 : Int) (r : Int) (w : World) (h : impl_upTo.f a0 a1 = some r) :
  Calls Try.prog 82 #[.int .i64 a0, .int .i64 a1] w fun e w' => e = .returned (.int .i64 r) ∧ Drawn0 w w' := by
 have H : (if a1 = 0 then (none) else (some (wrap64 (Int.tdiv (wrap64 ((wrap64 (a0 + a1)) - 1)) a1)))) = some r := h
 clear h
 by_cases c3 : a1 = 0
 case neg =>
  rw [if_neg c3] at H
  have c3b0 : (a1 == 0) = false := beq_eq_false_iff_ne.mpr c3
  have c3b1 : (a1 != 0) = true := bne_iff_ne.mpr c3
  obtain rfl := Option.some.inj H
  go_enter Try.func82, Try.ntmps82
  go_wp2
  go_ret
  exact ⟨by first | rfl | (simp; done) | (simp [*]; done), by repeat (first | exact Drawn0.refl _ | apply Drawn0.step)⟩
 rw [if_pos c3] at H
 exact absurd H (by simp)

/-! ### impl_hoseLoss: function 71 -/
def impl_hoseLoss.fac (k : Int) : Int := if k = 0 then 3 else if k = 1 then 20 else if k = 2 then 160 else 5000
def impl_hoseLoss.f (a0_0 : Int) (a0_1 : Int) (a1 : Int) : Option (Int) := if 0 ≤ a0_0 then (if a0_0 < 4 then (impl_upTo.f (wrap64 (wrap64 (wrap64 (impl_hoseLoss.fac a0_0 * a1) * a1) * a0_1)) 100000000) else none) else none
theorem impl_hoseLoss.calls (a0_0 : Int) (a0_1 : Int) (a1 : Int) (r : Int) (w : World) (h : impl_hoseLoss.f a0_0 a0_1 a1 = some r) :
  Calls Try.prog 71 #[.agg #[.int .i64 a0_0, .int .i64 a0_1], .int .i64 a1] w fun e w' => e = .returned (.int .i64 r) ∧ Below w.heap.size w w' := by
 have i0 : ∀ W : World, (Instr.index 78 (.agg #[.int .i64 3, .int .i64 20, .int .i64 160, .int .i64 5000]) (.int .i64 0)).run Try.prog W = .ok (.int .i64 3) W := fun _ => by kernel_rfl
 have i1 : ∀ W : World, (Instr.index 78 (.agg #[.int .i64 3, .int .i64 20, .int .i64 160, .int .i64 5000]) (.int .i64 1)).run Try.prog W = .ok (.int .i64 20) W := fun _ => by kernel_rfl
 have i2 : ∀ W : World, (Instr.index 78 (.agg #[.int .i64 3, .int .i64 20, .int .i64 160, .int .i64 5000]) (.int .i64 2)).run Try.prog W = .ok (.int .i64 160) W := fun _ => by kernel_rfl
 have i3 : ∀ W : World, (Instr.index 78 (.agg #[.int .i64 3, .int .i64 20, .int .i64 160, .int .i64 5000]) (.int .i64 3)).run Try.prog W = .ok (.int .i64 5000) W := fun _ => by kernel_rfl
 unfold impl_hoseLoss.f at h
 split at h
 case isFalse => exact absurd h (by simp)
 split at h
 case isFalse => exact absurd h (by simp)
 have hk : a0_0 = 0 ∨ a0_0 = 1 ∨ a0_0 = 2 ∨ a0_0 = 3 := by omega
 rcases hk with rfl | rfl | rfl | rfl
 · have h := Aside0.mk (show impl_upTo.f (wrap64 (wrap64 (wrap64 (3 * a1) * a1) * a0_1)) 100000000 = some r from h)
   go_enter Try.func71, Try.ntmps71
   go_wp2_with (go_at_call 82; (with_reducible refine (impl_upTo.calls _ _ r _ h.out).mono ?_); rintro e w' ⟨rfl, ⟨nd, rfl⟩⟩)
   go_ret
   exact ⟨rfl, by repeat (first | exact Below.refl _ _ | apply bA_ | apply bN_)⟩
 · have h := Aside0.mk (show impl_upTo.f (wrap64 (wrap64 (wrap64 (20 * a1) * a1) * a0_1)) 100000000 = some r from h)
   go_enter Try.func71, Try.ntmps71
   go_wp2_with (go_at_call 82; (with_reducible refine (impl_upTo.calls _ _ r _ h.out).mono ?_); rintro e w' ⟨rfl, ⟨nd, rfl⟩⟩)
   go_ret
   exact ⟨rfl, by repeat (first | exact Below.refl _ _ | apply bA_ | apply bN_)⟩
 · have h := Aside0.mk (show impl_upTo.f (wrap64 (wrap64 (wrap64 (160 * a1) * a1) * a0_1)) 100000000 = some r from h)
   go_enter Try.func71, Try.ntmps71
   go_wp2_with (go_at_call 82; (with_reducible refine (impl_upTo.calls _ _ r _ h.out).mono ?_); rintro e w' ⟨rfl, ⟨nd, rfl⟩⟩)
   go_ret
   exact ⟨rfl, by repeat (first | exact Below.refl _ _ | apply bA_ | apply bN_)⟩
 · have h := Aside0.mk (show impl_upTo.f (wrap64 (wrap64 (wrap64 (5000 * a1) * a1) * a0_1)) 100000000 = some r from h)
   go_enter Try.func71, Try.ntmps71
   go_wp2_with (go_at_call 82; (with_reducible refine (impl_upTo.calls _ _ r _ h.out).mono ?_); rintro e w' ⟨rfl, ⟨nd, rfl⟩⟩)
   go_ret
   exact ⟨rfl, by repeat (first | exact Below.refl _ _ | apply bA_ | apply bN_)⟩

end Go.Proofs.Ytenfngleiohbhaa.P
