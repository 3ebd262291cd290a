/- Written by a program of this session (wip/p2) out of the translation: plain Lean functions, and that the calls of the Go functions come to what these say. Conditions: as each contract states. -/
import Derived.Test.YtenfngleiohbhaaPx0
import Derived.Test.YtenfngleiohbhaaPx16
namespace Go.Proofs.Ytenfngleiohbhaa.P
open Go.RowKit Go.Proofs.YtenfngleiohbhaaW.PrintWords Go.Proofs.YtenfngleiohbhaaW.PrintLast Go.Proofs.YtenfngleiohbhaaW.PrintMore
attribute [local go_sem] max2_int min2_int max_two min_two max_three min_three max_four min_four   -- for this text's walks alone
set_option linter.unusedVariables false
set_option linter.unusedSimpArgs false

/-! ### impl_HoseMeters: function 29 -/
def impl_HoseMeters.l0 : Nat → List Int → List (S45) → Int → Int → Option (List Int × Bool)
  | 0, _, _, _, _ => none
  | k + 1, x4, x11, x12, x13 => if x13 < x12 then (if 0 ≤ x13 then (if x13 < (x11.length : Int) then (if 0 ≤ ((rd_T45 x11 x13).f1.f0) then (if ((rd_T45 x11 x13).f1.f0) < (x4.length : Int) then (impl_HoseMeters.l0 k (x4.set (((rd_T45 x11 x13).f1.f0) : Int).toNat (wrap64 ((rd x4 ((rd_T45 x11 x13).f1.f0)) + ((rd_T45 x11 x13).f1.f1)))) x11 x12 (wrap64 (x13 + 1))) else (none)) else (none)) else (none)) else (none)) else (some (x4, true))
def impl_HoseMeters.f (k : Nat) (l0 : List (S45)) : Option (List Int × Bool) := (impl_isHoseLine.f k l0).bind fun t311 => (if t311 = true then (if 4 ≤ 35184372088832 then (impl_HoseMeters.l0 k (List.replicate 4 0) l0 (l0.length : Int) 0) else (none)) else (some (([] : List Int), false)))
theorem impl_HoseMeters.mono_l : ∀ k, (∀ y0 y1 y2 y3, LeO (impl_HoseMeters.l0 k y0 y1 y2 y3) (impl_HoseMeters.l0 (k + 1) y0 y1 y2 y3))
 | 0 => fun _ _ _ _ r h => by simp [impl_HoseMeters.l0] at h
 | k + 1 => by
  have ih0 := impl_HoseMeters.mono_l k
  · intro y0 y1 y2 y3
    unfold impl_HoseMeters.l0
    repeat' first
    | (with_reducible exact ih0 _ _ _ _)
    | (with_reducible exact impl_isHoseLine.mono _ _)
    | (with_reducible exact LeO.refl _)
    | (with_reducible exact LeO.none _)
    | (with_reducible refine LeO.ite ?_ ?_)
    | (with_reducible refine LeO.bind ?_ (fun _ => ?_))
    | exact ih0 _ _ _ _
    | exact impl_isHoseLine.mono _ _
    | exact LeO.none _
    | refine LeO.ite ?_ ?_
    | refine LeO.bind ?_ (fun _ => ?_)
theorem impl_HoseMeters.mono : ∀ a0 k, LeO (impl_HoseMeters.f k a0) (impl_HoseMeters.f (k + 1) a0) := by
 intro a0 k
 have ih0 := impl_HoseMeters.mono_l k
 unfold impl_HoseMeters.f
 repeat' first
  | (with_reducible exact ih0 _ _ _ _)
  | (with_reducible exact impl_isHoseLine.mono _ _)
  | (with_reducible exact LeO.refl _)
  | (with_reducible exact LeO.none _)
  | (with_reducible refine LeO.ite ?_ ?_)
  | (with_reducible refine LeO.bind ?_ (fun _ => ?_))
  | exact ih0 _ _ _ _
  | exact impl_isHoseLine.mono _ _
  | exact LeO.none _
  | refine LeO.ite ?_ ?_
  | refine LeO.bind ?_ (fun _ => ?_)
def impl_HoseMeters.T7 : Bool × List (List Nat × List Nat) := (true, [([], []), ([], []), ([1], [1]), ([2], [2]), ([0, 3], [0, 3]), ([4], [4]), ([], []), ([6], [6]), ([7], [7]), ([5, 8], [5, 8]), ([0, 3, 0, 1, 2, 3, 4, 5, 6, 7, 8, 9], [0, 3]), ([10, 9, 0, 1, 2, 3, 4, 5, 6, 7, 8, 9], [9, 10])])
def impl_HoseMeters.B7 : List Nat := [0, 0, 2, 6, 15, 31, 0, 64, 192, 511, 1023, 2047]
theorem impl_HoseMeters.tab7 : rtab .any (opsOf Try.f29 7) = impl_HoseMeters.T7 := by kernel_rfl
theorem impl_HoseMeters.bits7 : waitsOk impl_HoseMeters.T7.2 impl_HoseMeters.B7 = true := by kernel_rfl
set_option maxHeartbeats 8000000 in
set_option maxRecDepth 100000 in
theorem impl_HoseMeters.calls (k : Nat) (A0 : Option Addr) (c0 : Nat) (l0 : List (S45)) (r1 : List Int) (r2 : Bool) (w : World) (hr0 : Kd.C k45 w A0 l0.length l0) (hc0 : l0.length ≤ c0) (h : impl_HoseMeters.f k l0 = some (r1, r2)) :
  Calls Try.prog 29 #[.slice A0 l0.length c0] w fun e w' => ∃ v0_ : Value, e = .returned (.tuple #[v0_, .bool r2]) ∧ Kd.R (Kd.int .i64) 3 w' w.heap.size (fun _ => True) v0_ r1 ∧ Below w.heap.size w w' := by
 have hu45 := Try.underlying45
 have HR0 := Aside0.mk hr0
 have HC0 := Aside0.mk hc0
 clear hr0 hc0
 have HB := Aside0.mk (Below.refl w.heap.size w)
 have H : ((impl_isHoseLine.f k l0).bind fun t311 => (if t311 = true then (if 4 ≤ 35184372088832 then (impl_HoseMeters.l0 k (List.replicate 4 0) l0 (l0.length : Int) 0) else (none)) else (some (([] : List Int), false)))) = some (r1, r2) := h
 clear h
 replace H := Option.bind_eq_some_iff.mp H
 obtain ⟨t311, A20, H⟩ := H
 replace H : (if t311 = true then (if 4 ≤ 35184372088832 then (impl_HoseMeters.l0 k (List.replicate 4 0) l0 (l0.length : Int) 0) else (none)) else (some (([] : List Int), false))) = some (r1, r2) := H
 have A2 := Aside0.mk A20
 clear A20
 by_cases c3 : t311 = true
 case neg =>
  replace c3 := Bool.eq_false_iff.mpr c3
  subst c3
  have H1 : (some (([] : List Int), false)) = some (r1, r2) := by rw [if_neg (show ¬ (false = true) by decide)] at H; exact H
  clear H
  have H := H1
  clear H1
  simp only [Option.some.injEq, Prod.mk.injEq] at H
  obtain ⟨rfl, rfl⟩ := H
  go_enter Try.func29, Try.ntmps29
  go_wp2_with (first | ((with_reducible refine gate_callee (f := 52) rfl ?_); refine goesL_ (some 8) rfl rfl Try.func52 (by kernel_rfl) rfl #[.slice A0 l0.length c0] rfl (by (try simp only [List.map_toArray, List.map_cons, List.map_nil]); first | done | rfl | (simp only [List.length_drop, List.length_take]; rfl)) ?_; (with_reducible refine (impl_isHoseLine.calls k _ _ l0 false _ ?side1 ?side2 A2.out).mono ?_); (case side1 => repeat (first | exact HR0.out | (with_reducible refine Kd.C_alloc ?_ _) | (with_reducible refine Kd.C_drewN ?_ _) | (with_reducible refine Kd.C_drew ?_))); (case side2 => exact HC0.out); rintro e w20 ⟨rfl, hb⟩; refine ⟨_, rfl, ?_⟩; have n0_ := Aside0.mk (below_step (by repeat (first | (with_reducible first | exact HB.out | apply below_alloc | apply pw_below_drewN | apply below_drew1) | exact HB.out)) hb); clear HB; have HB := n0_; clear n0_; (try clear hb); (try clear hb2); (try clear hk); (try clear hi)))
  go_ret2
  exact ⟨_, by first | rfl | (simp [errW_none, errW_some] <;> rfl) | (simp [*, errW_none, errW_some] <;> rfl), by first | exact Kd.R_nil _ _ _ _ _ | exact Kd.N_nil _ _ _ _ _ | exact Kd.V_nil _ _ _ _ _ | exact Kd.Q_nil _ _ _ _ _ | exact Kd.S_nil _ _ _ _ _, by repeat (first | (with_reducible first | exact HB.out | apply below_alloc | apply pw_below_drewN | apply below_drew1) | exact HB.out)⟩
 subst c3
 have H1 : (if 4 ≤ 35184372088832 then (impl_HoseMeters.l0 k (List.replicate 4 0) l0 (l0.length : Int) 0) else (none)) = some (r1, r2) := by rw [if_pos rfl] at H; exact H
 clear H
 have H := H1
 clear H1
 by_cases c4 : 4 ≤ 35184372088832
 case neg =>
  rw [if_neg c4] at H
  exact absurd H (by simp)
 rw [if_pos c4] at H
 have c4b0 := eq_true c4
 have c4b1 : decide (4 ≤ 35184372088832) = true := decide_eq_true c4
 clear c4
 obtain ⟨y312, hy312⟩ : ∃ y_ : List Int, y_ = (List.replicate 4 0) := ⟨_, rfl⟩
 replace H : (impl_HoseMeters.l0 k y312 l0 (l0.length : Int) 0) = some (r1, r2) := by first | (rw [hy312]; with_reducible exact H) | (have H2_ := (Option.bind_some _ _).symm.trans H; rw [hy312]; with_reducible exact H2_) | (have H2_ := (Option.bind_some _ _).symm.trans H; with_reducible exact H2_) | with_reducible exact H | (rw [hy312]; exact H) | exact H
 have Ny312 := Aside0.mk hy312
 clear hy312
 have H' := Aside0.mk H
 clear H
 go_enter Try.func29, Try.ntmps29
 go_wp2_with (first | ((with_reducible refine gate_callee (f := 52) rfl ?_); refine goesL_ (some 8) rfl rfl Try.func52 (by kernel_rfl) rfl #[.slice A0 l0.length c0] rfl (by (try simp only [List.map_toArray, List.map_cons, List.map_nil]); first | done | rfl | (simp only [List.length_drop, List.length_take]; rfl)) ?_; (with_reducible refine (impl_isHoseLine.calls k _ _ l0 true _ ?side1 ?side2 A2.out).mono ?_); (case side1 => repeat (first | exact HR0.out | (with_reducible refine Kd.C_alloc ?_ _) | (with_reducible refine Kd.C_drewN ?_ _) | (with_reducible refine Kd.C_drew ?_))); (case side2 => exact HC0.out); rintro e w5 ⟨rfl, hb⟩; refine ⟨_, rfl, ?_⟩; have n0_ := Aside0.mk (below_step (by repeat (first | (with_reducible first | exact HB.out | apply below_alloc | apply pw_below_drewN | apply below_drew1) | exact HB.out)) hb); clear HB; have HB := n0_; clear n0_; (try clear hb); (try clear hb2); (try clear hk); (try clear hi)) | ((with_reducible refine gate_dst (N := 10) rfl ?_); refine Kd.R_make (Kd.int .i64) _ 3 rfl (N := 10) rfl 31 _ _ rfl 4 rfl rfl Try.underlying31 (.int .i64 0) 8 info3 rfl (by decide) (by omega) 0 (ok := fun _ => True) (okp := fun _ => True) rfl (fun _ hk => hk) trivial (by omega) (by omega) (Below.refl _ _) (Nat.le_refl _) ?_; intro v313 w6 ho7 hb hg_ hnew_; clear hg_ hnew_; (first | rw [← Ny312.out] at ho7 | (simp only [Int.reduceToNat] at ho7; rw [← Ny312.out] at ho7)); have n0_ := Aside0.mk (Kd.R_lower ho7 (below_size (by repeat (first | (with_reducible first | exact HB.out | apply below_alloc | apply pw_below_drewN | apply below_drew1) | exact HB.out)))); have n1_ := Aside0.mk (below_step (by repeat (first | (with_reducible first | exact HB.out | apply below_alloc | apply pw_below_drewN | apply below_drew1) | exact HB.out)) hb); clear HB; have HO314 := n0_; have HB := n1_; clear n0_ n1_; clear hb ho7))
 go_loopg [13] k (fun kq v13 w' => ∃ (x4_1 : List Int) (x13_1 : Int), v13 = .int .i64 x13_1 ∧ Aside0 (impl_HoseMeters.l0 kq x4_1 l0 (l0.length : Int) x13_1 = some (r1, r2)) ∧ Aside0 (kq ≤ k) ∧ Aside0 (Kd.R (Kd.int .i64) 3 w' w.heap.size (fun _ => True) v313 x4_1) ∧ Aside0 (Below w.heap.size w w'))
 case atStart => exact ⟨(y312), (0), (by first | rfl | (simp; done) | (simp [*]; done)), H', ⟨Nat.le_refl _⟩, ⟨by (with_reducible repeat (first | apply Kd.R_alloc | apply Kd.R_drewN | apply Kd.R_drew)); exact HO314.out⟩, ⟨by repeat (first | (with_reducible first | exact HB.out | apply below_alloc | apply pw_below_drewN | apply below_drew1) | exact HB.out)⟩⟩
 case round =>
  clear H'
  try clear c2
  try clear p2
  try clear c3
  try clear c4
  try clear c4b0
  try clear c4b1
  try clear c5
  obtain ⟨x4_1, x13_1, rfl, HA, HK1, HO_4, HB⟩ := hrel
  cases gk with
  | zero => exact absurd HA.out (by simp [impl_HoseMeters.l0])
  | succ k1 =>
   have H := HA.out
   clear HA
   simp only [impl_HoseMeters.l0] at H
   by_cases c8 : x13_1 < (l0.length : Int)
   case neg =>
    rw [if_neg c8] at H
    have c8b0 : decide (x13_1 < (l0.length : Int)) = false := decide_eq_false c8
    clear c8
    simp only [Option.some.injEq, Prod.mk.injEq] at H
    obtain ⟨rfl, rfl⟩ := H
    go_wp2
    go_ret2
    exact ⟨_, by first | rfl | (simp [errW_none, errW_some] <;> rfl) | (simp [*, errW_none, errW_some] <;> rfl), by (with_reducible repeat (first | apply Kd.R_alloc | apply Kd.R_drewN | apply Kd.R_drew)); exact HO_4.out, by repeat (first | (with_reducible first | exact HB.out | apply below_alloc | apply pw_below_drewN | apply below_drew1) | exact HB.out)⟩
   rw [if_pos c8] at H
   have c8b0 : decide (x13_1 < (l0.length : Int)) = true := decide_eq_true c8
   clear c8
   by_cases c9 : 0 ≤ x13_1
   case neg =>
    rw [if_neg c9] at H
    exact absurd H (by simp)
   rw [if_pos c9] at H
   have c9b0 : decide (0 ≤ x13_1) = true := decide_eq_true c9
   clear c9
   by_cases c10 : x13_1 < (l0.length : Int)
   case neg =>
    rw [if_neg c10] at H
    exact absurd H (by simp)
   rw [if_pos c10] at H
   have c10b0 : decide (x13_1 < (l0.length : Int)) = true := decide_eq_true c10
   clear c10
   by_cases c11 : 0 ≤ ((rd_T45 l0 x13_1).f1.f0)
   case neg =>
    rw [if_neg c11] at H
    exact absurd H (by simp)
   rw [if_pos c11] at H
   have c11b0 : decide (0 ≤ ((rd_T45 l0 x13_1).f1.f0)) = true := decide_eq_true c11
   clear c11
   by_cases c12 : ((rd_T45 l0 x13_1).f1.f0) < (x4_1.length : Int)
   case neg =>
    rw [if_neg c12] at H
    exact absurd H (by simp)
   rw [if_pos c12] at H
   have c12b0 : decide (((rd_T45 l0 x13_1).f1.f0) < (x4_1.length : Int)) = true := decide_eq_true c12
   clear c12
   obtain ⟨y318, hy318⟩ : ∃ y_ : List Int, y_ = (x4_1.set (((rd_T45 l0 x13_1).f1.f0) : Int).toNat (wrap64 ((rd x4_1 ((rd_T45 l0 x13_1).f1.f0)) + ((rd_T45 l0 x13_1).f1.f1)))) := ⟨_, rfl⟩
   replace H : (impl_HoseMeters.l0 k1 y318 l0 (l0.length : Int) (wrap64 (x13_1 + 1))) = some (r1, r2) := by first | (rw [hy318]; with_reducible exact H) | (have H2_ := (Option.bind_some _ _).symm.trans H; rw [hy318]; with_reducible exact H2_) | (have H2_ := (Option.bind_some _ _).symm.trans H; with_reducible exact H2_) | with_reducible exact H | (rw [hy318]; exact H) | exact H
   have Ny318 := Aside0.mk hy318
   clear hy318
   have H' := Aside0.mk H
   clear H
   have p315 : 0 ≤ (x13_1 : Int) := of_decide_eq_true (by first | (with_reducible assumption) | assumption)
   have q315 : x13_1 < (l0.length : Int) := of_decide_eq_true (by first | (with_reducible assumption) | assumption)
   obtain ⟨ad315, e315, hx315_0, hx315_1, hx315_2, hx315_3, hx315_4, hx315_5⟩ := at_T45 HR0.out x13_1 p315 q315
   cases e315
   replace hx315_0 := (HB.out.cell (World.block_lt_of_cell? w _ hx315_0)).trans hx315_0
   replace hx315_1 := (HB.out.cell (World.block_lt_of_cell? w _ hx315_1)).trans hx315_1
   replace hx315_2 := (HB.out.cell (World.block_lt_of_cell? w _ hx315_2)).trans hx315_2
   replace hx315_3 := (HB.out.cell (World.block_lt_of_cell? w _ hx315_3)).trans hx315_3
   replace hx315_4 := (HB.out.cell (World.block_lt_of_cell? w _ hx315_4)).trans hx315_4
   replace hx315_5 := (HB.out.cell (World.block_lt_of_cell? w _ hx315_5)).trans hx315_5
   replace p315 := eq_true p315
   replace q315 := eq_true q315
   try go_wp2_with (first | ((with_reducible refine gate_dst (N := 6) rfl ?_); refine box_event ?hg (N := 6) ?hd (cs := #[.int .i64 0, .int .i64 0, .int .i64 0, .int .i64 0, .int .i64 0, .int .i64 0]) (t := 45) ?hr ?_; (case hd => rfl); (case hg => rfl); (case hr => first | (go_simp; done) | (go_simp; rfl)); intro gb316 hg w14 hbox hb; have n0_ := Aside0.mk (Kd.R_below (by (with_reducible repeat (first | apply Kd.R_alloc | apply Kd.R_drewN | apply Kd.R_drew)); exact HO_4.out) hb); have n1_ := Aside0.mk (below_step (by repeat (first | (with_reducible first | exact HB.out | apply below_alloc | apply pw_below_drewN | apply below_drew1) | exact HB.out)) hb); have n2_ := Aside0.mk (hbox); have n3_ := Aside0.mk ((by rw [hg]; exact (below_size (by repeat (first | (with_reducible first | exact HB.out | apply below_alloc | apply pw_below_drewN | apply below_drew1) | exact HB.out))) : w.heap.size ≤ gb316)); have n4_ := Aside0.mk ((by rw [hg]; exact (below_size (by repeat (first | (with_reducible first | exact HB.out | apply below_alloc | apply pw_below_drewN | apply below_drew1) | exact HB.out))) : w.heap.size ≤ gb316)); clear HO_4; clear HB; have HO_4 := n0_; have HB := n1_; have BK316 := n2_; have GW316 := n3_; have GE316 := n4_; clear n0_ n1_ n2_ n3_ n4_; clear hb hbox hg; have hcz15_0 : w14.cell? ⟨gb316, 0, none⟩ = some (.int .i64 0) := (blk_cell BK316.out 0).trans rfl; have hcz15_1 : w14.cell? ⟨gb316, 1, none⟩ = some (.int .i64 0) := (blk_cell BK316.out 1).trans rfl; have hcz15_2 : w14.cell? ⟨gb316, 2, none⟩ = some (.int .i64 0) := (blk_cell BK316.out 2).trans rfl; have hcz15_3 : w14.cell? ⟨gb316, 3, none⟩ = some (.int .i64 0) := (blk_cell BK316.out 3).trans rfl; have hcz15_4 : w14.cell? ⟨gb316, 4, none⟩ = some (.int .i64 0) := (blk_cell BK316.out 4).trans rfl; have hcz15_5 : w14.cell? ⟨gb316, 5, none⟩ = some (.int .i64 0) := (blk_cell BK316.out 5).trans rfl; have hfz15_0 := blk_frozen BK316.out 0; have hfz15_1 := blk_frozen BK316.out 1; have hfz15_2 := blk_frozen BK316.out 2; have hfz15_3 := blk_frozen BK316.out 3; have hfz15_4 := blk_frozen BK316.out 4; have hfz15_5 := blk_frozen BK316.out 5))
   have n0_ : Aside0 (Kd.R (Kd.int .i64) 3 ((((((w14.setCell ⟨gb316, 0, none⟩ (.int .i64 ((rd_T45 l0 x13_1).f0))).setCell ⟨gb316, 1, none⟩ (.int .i64 ((rd_T45 l0 x13_1).f1.f0))).setCell ⟨gb316, 2, none⟩ (.int .i64 ((rd_T45 l0 x13_1).f1.f1))).setCell ⟨gb316, 3, none⟩ (.int .i64 ((rd_T45 l0 x13_1).f2))).setCell ⟨gb316, 4, none⟩ (.int .i64 ((rd_T45 l0 x13_1).f3))).setCell ⟨gb316, 5, none⟩ (.int .i64 ((rd_T45 l0 x13_1).f4))) w.heap.size (fun _ => True) v313 x4_1) := ⟨by (with_reducible repeat (first | apply Kd.R_alloc | apply Kd.R_drewN | apply Kd.R_drew)); exact Kd.R_mono (Kd.R_far (p := ⟨gb316, 5, none⟩) (Kd.R_far (p := ⟨gb316, 4, none⟩) (Kd.R_far (p := ⟨gb316, 3, none⟩) (Kd.R_far (p := ⟨gb316, 2, none⟩) (Kd.R_far (p := ⟨gb316, 1, none⟩) (Kd.R_far (p := ⟨gb316, 0, none⟩) (Kd.R_types HO_4.out BK316.out (by decide)) (fun _ hk => hk.2) (.int .i64 ((rd_T45 l0 x13_1).f0))) (fun _ hk => hk.2) (.int .i64 ((rd_T45 l0 x13_1).f1.f0))) (fun _ hk => hk.2) (.int .i64 ((rd_T45 l0 x13_1).f1.f1))) (fun _ hk => hk.2) (.int .i64 ((rd_T45 l0 x13_1).f2))) (fun _ hk => hk.2) (.int .i64 ((rd_T45 l0 x13_1).f3))) (fun _ hk => hk.2) (.int .i64 ((rd_T45 l0 x13_1).f4))) (fun _ hk => trivial)⟩
   have n1_ : Aside0 (((((((w14.setCell ⟨gb316, 0, none⟩ (.int .i64 ((rd_T45 l0 x13_1).f0))).setCell ⟨gb316, 1, none⟩ (.int .i64 ((rd_T45 l0 x13_1).f1.f0))).setCell ⟨gb316, 2, none⟩ (.int .i64 ((rd_T45 l0 x13_1).f1.f1))).setCell ⟨gb316, 3, none⟩ (.int .i64 ((rd_T45 l0 x13_1).f2))).setCell ⟨gb316, 4, none⟩ (.int .i64 ((rd_T45 l0 x13_1).f3))).setCell ⟨gb316, 5, none⟩ (.int .i64 ((rd_T45 l0 x13_1).f4))).heap[gb316]? = some (.cells #[.int .i64 ((rd_T45 l0 x13_1).f0), .int .i64 ((rd_T45 l0 x13_1).f1.f0), .int .i64 ((rd_T45 l0 x13_1).f1.f1), .int .i64 ((rd_T45 l0 x13_1).f2), .int .i64 ((rd_T45 l0 x13_1).f3), .int .i64 ((rd_T45 l0 x13_1).f4)] 45 (0, 0))) := ⟨by (with_reducible repeat (first | refine blk_drewN ?_ _ | refine blk_drew ?_ | refine blk_alloc ?_ _)); refine blk_put (cs := #[.int .i64 ((rd_T45 l0 x13_1).f0), .int .i64 ((rd_T45 l0 x13_1).f1.f0), .int .i64 ((rd_T45 l0 x13_1).f1.f1), .int .i64 ((rd_T45 l0 x13_1).f2), .int .i64 ((rd_T45 l0 x13_1).f3), .int .i64 0]) ?_ 5 _ rfl; (with_reducible repeat (first | refine blk_drewN ?_ _ | refine blk_drew ?_ | refine blk_alloc ?_ _)); refine blk_put (cs := #[.int .i64 ((rd_T45 l0 x13_1).f0), .int .i64 ((rd_T45 l0 x13_1).f1.f0), .int .i64 ((rd_T45 l0 x13_1).f1.f1), .int .i64 ((rd_T45 l0 x13_1).f2), .int .i64 0, .int .i64 0]) ?_ 4 _ rfl; (with_reducible repeat (first | refine blk_drewN ?_ _ | refine blk_drew ?_ | refine blk_alloc ?_ _)); refine blk_put (cs := #[.int .i64 ((rd_T45 l0 x13_1).f0), .int .i64 ((rd_T45 l0 x13_1).f1.f0), .int .i64 ((rd_T45 l0 x13_1).f1.f1), .int .i64 0, .int .i64 0, .int .i64 0]) ?_ 3 _ rfl; (with_reducible repeat (first | refine blk_drewN ?_ _ | refine blk_drew ?_ | refine blk_alloc ?_ _)); refine blk_put (cs := #[.int .i64 ((rd_T45 l0 x13_1).f0), .int .i64 ((rd_T45 l0 x13_1).f1.f0), .int .i64 0, .int .i64 0, .int .i64 0, .int .i64 0]) ?_ 2 _ rfl; (with_reducible repeat (first | refine blk_drewN ?_ _ | refine blk_drew ?_ | refine blk_alloc ?_ _)); refine blk_put (cs := #[.int .i64 ((rd_T45 l0 x13_1).f0), .int .i64 0, .int .i64 0, .int .i64 0, .int .i64 0, .int .i64 0]) ?_ 1 _ rfl; (with_reducible repeat (first | refine blk_drewN ?_ _ | refine blk_drew ?_ | refine blk_alloc ?_ _)); refine blk_put (cs := #[.int .i64 0, .int .i64 0, .int .i64 0, .int .i64 0, .int .i64 0, .int .i64 0]) ?_ 0 _ rfl; (with_reducible repeat (first | refine blk_drewN ?_ _ | refine blk_drew ?_ | refine blk_alloc ?_ _)); exact BK316.out⟩
   have n2_ : Aside0 (Below w.heap.size w ((((((w14.setCell ⟨gb316, 0, none⟩ (.int .i64 ((rd_T45 l0 x13_1).f0))).setCell ⟨gb316, 1, none⟩ (.int .i64 ((rd_T45 l0 x13_1).f1.f0))).setCell ⟨gb316, 2, none⟩ (.int .i64 ((rd_T45 l0 x13_1).f1.f1))).setCell ⟨gb316, 3, none⟩ (.int .i64 ((rd_T45 l0 x13_1).f2))).setCell ⟨gb316, 4, none⟩ (.int .i64 ((rd_T45 l0 x13_1).f3))).setCell ⟨gb316, 5, none⟩ (.int .i64 ((rd_T45 l0 x13_1).f4)))) := ⟨by repeat (first | (with_reducible first | exact HB.out | apply below_alloc | apply pw_below_drewN | apply below_drew1 | refine below_set ?_ GE316.out) | exact HB.out)⟩
   (try clear HO_4)
   (try clear BK316)
   (try clear HB)
   generalize ((((((w14.setCell ⟨gb316, 0, none⟩ (.int .i64 ((rd_T45 l0 x13_1).f0))).setCell ⟨gb316, 1, none⟩ (.int .i64 ((rd_T45 l0 x13_1).f1.f0))).setCell ⟨gb316, 2, none⟩ (.int .i64 ((rd_T45 l0 x13_1).f1.f1))).setCell ⟨gb316, 3, none⟩ (.int .i64 ((rd_T45 l0 x13_1).f2))).setCell ⟨gb316, 4, none⟩ (.int .i64 ((rd_T45 l0 x13_1).f3))).setCell ⟨gb316, 5, none⟩ (.int .i64 ((rd_T45 l0 x13_1).f4))) = w16 at n0_ n1_ n2_ ⊢
   have HO_4 := n0_
   have BK316 := n1_
   have HB := n2_
   clear n0_ n1_ n2_
   have n0_ := Aside0.mk (Kd.R_drew HO_4.out)
   have n1_ := Aside0.mk (blk_drew BK316.out)
   have n2_ := Aside0.mk (below_drew1 HB.out)
   clear HO_4
   clear BK316
   clear HB
   have HO_4 := n0_
   have BK316 := n1_
   have HB := n2_
   clear n0_ n1_ n2_
   obtain ⟨Ao18, co18, eo18⟩ := Kd.R_slice HO_4.out
   (first | subst eo18 | (injection eo18 with f1_ f2_ f3_; have f4_ := f1_.symm; have f5_ := f3_.symm; clear f1_ f2_ f3_; subst f4_; subst f5_))
   have p317 : 0 ≤ (((rd_T45 l0 x13_1).f1.f0) : Int) := of_decide_eq_true (by first | (with_reducible assumption) | assumption)
   have q317 : ((rd_T45 l0 x13_1).f1.f0) < (x4_1.length : Int) := of_decide_eq_true (by first | (with_reducible assumption) | assumption)
   obtain ⟨ad317, e317, hx317_0⟩ := Kd.at_int (Kd.R_reads' HO_4.out).2.2 ((rd_T45 l0 x13_1).f1.f0) p317 q317
   cases e317
   replace p317 := eq_true p317
   replace q317 := eq_true q317
   have p13 : 0 ≤ (((rd_T45 l0 x13_1).f1.f0) : Int) := of_decide_eq_true (by first | (with_reducible assumption) | assumption)
   have q13 : (((rd_T45 l0 x13_1).f1.f0) : Int) < ((x4_1.length : Int) : Int) := of_decide_eq_true (by first | (with_reducible assumption) | assumption)
   obtain ⟨go13, co13, eo13, gb13, gl13, cl13, HG13⟩ := Kd.R_form HO_4.out (by omega)
   (first | cases eo13 | (injection eo13 with ea_ en_ ec_; (first | subst ea_ | (injection ea_ with ea_; subst ea_)); subst ec_; clear en_))
   have GB13 := Aside0.mk gb13
   have GG13 := Aside0.mk HG13
   clear gb13 gl13 HG13
   (first | simp only [add_plain] at hx317_0 | skip)
   obtain ⟨hx13_0, hf13_0⟩ := Kd.R_celln 0 HO_4.out (((rd_T45 l0 x13_1).f1.f0) : Int) p13 q13
   replace p13 := eq_true p13
   replace q13 := eq_true q13
   have HP19 := Kd.R_putn HO_4.out (((rd_T45 l0 x13_1).f1.f0) : Int) (wrap64 ((rd x4_1 ((rd_T45 l0 x13_1).f1.f0)) + ((rd_T45 l0 x13_1).f1.f1)))
   rw [← Ny318.out] at HP19
   have HQ19 := Aside0.mk HP19
   clear HP19
   refine start_ (n := 12) (S := fun w' => w'.cell? ⟨gb316, 0, none⟩ = some (.int .i64 ((rd_T45 l0 x13_1).f0)) ∧ w'.cell? ⟨gb316, 1, none⟩ = some (.int .i64 ((rd_T45 l0 x13_1).f1.f0)) ∧ w'.cell? ⟨gb316, 2, none⟩ = some (.int .i64 ((rd_T45 l0 x13_1).f1.f1)) ∧ w'.cell? ⟨gb316, 3, none⟩ = some (.int .i64 ((rd_T45 l0 x13_1).f2)) ∧ w'.cell? ⟨gb316, 4, none⟩ = some (.int .i64 ((rd_T45 l0 x13_1).f3)) ∧ w'.cell? ⟨gb316, 5, none⟩ = some (.int .i64 ((rd_T45 l0 x13_1).f4)) ∧ w'.cell? ⟨go13, (((rd_T45 l0 x13_1).f1.f0)).toNat, none⟩ = some (.int .i64 (rd x4_1 ((rd_T45 l0 x13_1).f1.f0)))) (ds := [11]) #[false, false, false, false, false, false, false, false, false, false, false, false] (by kernel_rfl) rfl rfl ⟨(blk_cell BK316.out 0).trans rfl, (blk_cell BK316.out 1).trans rfl, (blk_cell BK316.out 2).trans rfl, (blk_cell BK316.out 3).trans rfl, (blk_cell BK316.out 4).trans rfl, (blk_cell BK316.out 5).trans rfl, hx317_0⟩ (fun hHeld => ?_); refine with_tabW impl_HoseMeters.tab7 impl_HoseMeters.bits7 (fun HT_ HW_ => ?_)
   generalize w16.drew = w17 at HO_4 BK316 HB GG13 HQ19 hf13_0 hx13_0 hx317_0 hHeld ⊢
   refine pure_ (i := 0) (N := some 17) (v := ?_) (a' := ?_) #[true, false, false, false, false, false, false, false, false, false, false, false] rfl rfl (any_of HT_.out (by kernel_rfl)) (fun _ _ _ h => h) (Or.inl ⟨by rfl, ?_⟩) ?_ ?_
   rotate_left
   · intro w'
     go_simp
     with_reducible rfl
   rotate_left
   · simp only [Act.put, List.setIfInBounds_toArray, List.set_cons_zero, List.set_cons_succ, i64_w, i32_w]
     rfl
   refine pure_ (i := 1) (N := some 18) (v := ?_) (a' := ?_) #[true, true, false, false, false, false, false, false, false, false, false, false] rfl rfl (any_of HT_.out (by kernel_rfl)) (fun _ _ _ h => h) (Or.inl ⟨by rfl, ?_⟩) ?_ ?_
   rotate_left
   · intro w'
     go_simp
     with_reducible rfl
   rotate_left
   · simp only [Act.put, List.setIfInBounds_toArray, List.set_cons_zero, List.set_cons_succ, i64_w, i32_w]
     rfl
   refine pure_ (i := 2) (N := some 19) (v := ?_) (a' := ?_) #[true, true, true, false, false, false, false, false, false, false, false, false] rfl rfl (any_of HT_.out (by kernel_rfl)) (fun _ _ _ h => h) (Or.inl ⟨by rfl, ?_⟩) ?_ ?_
   rotate_left
   · intro w'
     go_simp
     with_reducible rfl
   rotate_left
   · simp only [Act.put, List.setIfInBounds_toArray, List.set_cons_zero, List.set_cons_succ, i64_w, i32_w]
     rfl
   refine pure_ (i := 6) (N := some 23) (v := ?_) (a' := ?_) #[true, true, true, false, false, false, true, false, false, false, false, false] rfl rfl (any_of HT_.out (by kernel_rfl)) (fun _ _ _ h => h) (Or.inl ⟨by rfl, ?_⟩) ?_ ?_
   rotate_left
   · intro w'
     go_simp
     with_reducible rfl
   rotate_left
   · simp only [Act.put, List.setIfInBounds_toArray, List.set_cons_zero, List.set_cons_succ, i64_w, i32_w]
     rfl
   refine pure_ (i := 7) (N := some 24) (v := ?_) (a' := ?_) #[true, true, true, false, false, false, true, true, false, false, false, false] rfl rfl (any_of HT_.out (by kernel_rfl)) (fun _ _ _ h => h) (Or.inl ⟨by rfl, ?_⟩) ?_ ?_
   rotate_left
   · intro w'
     go_simp
     with_reducible rfl
   rotate_left
   · simp only [Act.put, List.setIfInBounds_toArray, List.set_cons_zero, List.set_cons_succ, i64_w, i32_w]
     rfl
   refine take_ (i := 3) (N := some 20) (v := ?_) (a' := ?_) #[true, true, true, true, false, false, true, true, false, false, false, false] rfl rfl (take_ofW HT_.out HW_.out (by kernel_rfl)) (fun _ _ _ h => h) (Or.inl ⟨by rfl, ?_⟩) hHeld ?_ ?_
   rotate_left
   · rintro w' ⟨s0, s1, s2, s3, s4, s5, s6⟩
     go_simp
     with_reducible rfl
   rotate_left
   · simp only [Act.put, List.setIfInBounds_toArray, List.set_cons_zero, List.set_cons_succ, i64_w, i32_w]
     rfl
   refine pure_ (i := 4) (N := some 21) (v := ?_) (a' := ?_) #[true, true, true, true, true, false, true, true, false, false, false, false] rfl rfl (any_of HT_.out (by kernel_rfl)) (fun _ _ _ h => h) (Or.inl ⟨by rfl, ?_⟩) ?_ ?_
   rotate_left
   · intro w'
     go_simp
     with_reducible rfl
   rotate_left
   · simp only [Act.put, List.setIfInBounds_toArray, List.set_cons_zero, List.set_cons_succ, i64_w, i32_w]
     rfl
   refine take_ (i := 5) (N := some 22) (v := ?_) (a' := ?_) #[true, true, true, true, true, true, true, true, false, false, false, false] rfl rfl (take_ofW HT_.out HW_.out (by kernel_rfl)) (fun _ _ _ h => h) (Or.inl ⟨by rfl, ?_⟩) hHeld ?_ ?_
   rotate_left
   · rintro w' ⟨s0, s1, s2, s3, s4, s5, s6⟩
     go_simp
     with_reducible rfl
   rotate_left
   · simp only [Act.put, List.setIfInBounds_toArray, List.set_cons_zero, List.set_cons_succ, i64_w, i32_w]
     rfl
   refine take_ (i := 8) (N := some 25) (v := ?_) (a' := ?_) #[true, true, true, true, true, true, true, true, true, false, false, false] rfl rfl (take_ofW HT_.out HW_.out (by kernel_rfl)) (fun _ _ _ h => h) (Or.inl ⟨by rfl, ?_⟩) hHeld ?_ ?_
   rotate_left
   · rintro w' ⟨s0, s1, s2, s3, s4, s5, s6⟩
     go_simp
     with_reducible rfl
   rotate_left
   · simp only [Act.put, List.setIfInBounds_toArray, List.set_cons_zero, List.set_cons_succ, i64_w, i32_w]
     rfl
   refine pure_ (i := 9) (N := some 26) (v := ?_) (a' := ?_) #[true, true, true, true, true, true, true, true, true, true, false, false] rfl rfl (any_of HT_.out (by kernel_rfl)) (fun _ _ _ h => h) (Or.inl ⟨by rfl, ?_⟩) ?_ ?_
   rotate_left
   · intro w'
     go_simp
     with_reducible rfl
   rotate_left
   · simp only [Act.put, List.setIfInBounds_toArray, List.set_cons_zero, List.set_cons_succ, i64_w, i32_w]
     rfl
   refine pure_ (i := 10) (N := some 27) (v := ?_) (a' := ?_) #[true, true, true, true, true, true, true, true, true, true, true, false] rfl rfl (any_of HT_.out (by kernel_rfl)) (fun _ _ _ h => h) (Or.inl ⟨by rfl, ?_⟩) ?_ ?_
   rotate_left
   · intro w'
     go_simp
     with_reducible rfl
   rotate_left
   · simp only [Act.put, List.setIfInBounds_toArray, List.set_cons_zero, List.set_cons_succ, i64_w, i32_w]
     rfl
   refine last_ (i := 11) (N := none) #[true, true, true, true, true, true, true, true, true, true, true, true] rfl rfl (one_of HT_.out (by kernel_rfl)) (by decide) (fun K hK => ?_)
   refine skip_ (w1 := ?_) (by rfl) rfl ?_ ?_
   rotate_left
   · go_simp
     rfl
   refine hK.out _ _ ?_
   clear hK K
   refine done_ (done_of HT_.out (by kernel_rfl)) ?_
   try go_wp2
   go_roundg k1
   case measure => have := HK1.out; omega
   case rel => exact ⟨(y318), (wrap64 (x13_1 + 1)), (by first | rfl | (simp; done) | (simp [*]; done)), H', ⟨by have := HK1.out; omega⟩, ⟨by (with_reducible repeat (first | apply Kd.R_alloc | apply Kd.R_drewN | apply Kd.R_drew)); exact HQ19.out⟩, ⟨by repeat (first | (with_reducible first | exact HB.out | apply below_alloc | apply pw_below_drewN | apply below_drew1 | refine below_set ?_ GB13.out | refine below_set ?_ GE316.out) | exact HB.out)⟩⟩

end Go.Proofs.Ytenfngleiohbhaa.P
