/- Written by a program of this session (wip/p2) out of the translation: plain Lean functions, and that the calls of the Go functions come to what these say. Conditions: as each contract states. -/
import Derived.Test.YtenfngleiohbhaaQFnExactHardestBranch5
namespace Go.Proofs.Ytenfngleiohbhaa.P
open Go.RowKit Go.Proofs.Ytenfngleiohbhaa Go.Proofs.YtenfngleiohbhaaW.PrintWords Go.Proofs.YtenfngleiohbhaaW.PrintLast Go.Proofs.YtenfngleiohbhaaW.PrintMore
attribute [local go_sem] max2_int min2_int max_two min_two max_three min_three max_four min_four   -- for this text's walks alone
set_option linter.unusedVariables false
set_option linter.unusedSimpArgs false

/-! ### spec_liLosses: function 64 -/
def spec_liLosses.l0 : Nat → List Int → List Int → List (S45) → Int → Int → Option (List Int)
  | 0, _, _, _, _, _ => none
  | k + 1, x3, x4, x10, x11, x12 => if x12 < x11 then (if 0 ≤ x12 then (if x12 < (x10.length : Int) then (if x12 < (x3.length : Int) then ((spec_hoLoss.f ((rd_T45 x10 x12).f1.f0) ((rd_T45 x10 x12).f1.f1) (rd x3 x12)).bind fun t460 => (if ((rd_T45 x10 x12).f0) ≥ 0 then (if 0 ≤ ((rd_T45 x10 x12).f0) then (if ((rd_T45 x10 x12).f0) < (x4.length : Int) then (if x4.length < 17592186044416 then (spec_liLosses.l0 k x3 (x4 ++ [wrap64 ((wrap64 (t460 + ((rd_T45 x10 x12).f2))) + (rd x4 ((rd_T45 x10 x12).f0)))]) x10 x11 (wrap64 (x12 + 1))) else (none)) else (none)) else (none)) else (if x4.length < 17592186044416 then (spec_liLosses.l0 k x3 (x4 ++ [wrap64 (t460 + ((rd_T45 x10 x12).f2))]) x10 x11 (wrap64 (x12 + 1))) else (none)))) else (none)) else (none)) else (none)) else (some x4)
def spec_liLosses.f (k : Nat) (l0 : List (S45)) : Option (List Int) := (spec_liFlows.f k l0).bind fun t454 => (spec_liLosses.l0 k t454 ([] : List Int) l0 (l0.length : Int) 0)
theorem spec_liLosses.mono_l : ∀ k, (∀ y0 y1 y2 y3 y4, LeO (spec_liLosses.l0 k y0 y1 y2 y3 y4) (spec_liLosses.l0 (k + 1) y0 y1 y2 y3 y4))
 | 0 => fun _ _ _ _ _ r h => by simp [spec_liLosses.l0] at h
 | k + 1 => by
  have ih0 := spec_liLosses.mono_l k
  · intro y0 y1 y2 y3 y4
    unfold spec_liLosses.l0
    repeat' first
    | (with_reducible exact ih0 _ _ _ _ _)
    | (with_reducible exact spec_liFlows.mono _ _)
    | (with_reducible exact LeO.refl _)
    | (with_reducible exact LeO.none _)
    | (with_reducible refine LeO.ite ?_ ?_)
    | (with_reducible refine LeO.bind ?_ (fun _ => ?_))
    | exact ih0 _ _ _ _ _
    | exact spec_liFlows.mono _ _
    | exact LeO.none _
    | refine LeO.ite ?_ ?_
    | refine LeO.bind ?_ (fun _ => ?_)
theorem spec_liLosses.mono : ∀ a0 k, LeO (spec_liLosses.f k a0) (spec_liLosses.f (k + 1) a0) := by
 intro a0 k
 have ih0 := spec_liLosses.mono_l k
 unfold spec_liLosses.f
 repeat' first
  | (with_reducible exact ih0 _ _ _ _ _)
  | (with_reducible exact spec_liFlows.mono _ _)
  | (with_reducible exact LeO.refl _)
  | (with_reducible exact LeO.none _)
  | (with_reducible refine LeO.ite ?_ ?_)
  | (with_reducible refine LeO.bind ?_ (fun _ => ?_))
  | exact ih0 _ _ _ _ _
  | exact spec_liFlows.mono _ _
  | exact LeO.none _
  | refine LeO.ite ?_ ?_
  | refine LeO.bind ?_ (fun _ => ?_)
def spec_liLosses.T6 : Bool × List (List Nat × List Nat) := (true, [([], []), ([0], [0]), ([], []), ([], []), ([2, 3], [2, 3]), ([4], [4]), ([1, 5], [1, 5]), ([], []), ([7], [7]), ([6, 8], [6, 8]), ([9, 6, 0, 1, 2, 3, 4, 5, 6, 7, 8, 9], [9])])
def spec_liLosses.B6 : List Nat := [0, 1, 0, 0, 12, 28, 63, 0, 128, 511, 1023]
theorem spec_liLosses.tab6 : rtab .any (opsOf Try.f64 6) = spec_liLosses.T6 := by kernel_rfl
theorem spec_liLosses.bits6 : waitsOk spec_liLosses.T6.2 spec_liLosses.B6 = true := by kernel_rfl
set_option maxHeartbeats 8000000 in
set_option maxRecDepth 100000 in
theorem spec_liLosses.calls (k : Nat) (A0 : Option Addr) (c0 : Nat) (l0 : List (S45)) (r : List Int) (w : World) (hr0 : Kd.C k45 w A0 l0.length l0) (hc0 : l0.length ≤ c0) (h : spec_liLosses.f k l0 = some r) :
  Calls Try.prog 64 #[.slice A0 l0.length c0] w fun e w' => ∃ v0_ : Value, e = .returned (v0_) ∧ Kd.R (Kd.int .i64) 3 w' w.heap.size (fun _ => True) v0_ r ∧ Below w.heap.size w w' := by
 have hu45 := Try.underlying45
 have hu43 := Try.underlying43
 have HR0 := Aside0.mk hr0
 have HC0 := Aside0.mk hc0
 clear hr0 hc0
 have HB := Aside0.mk (Below.refl w.heap.size w)
 have H : ((spec_liFlows.f k l0).bind fun t454 => (spec_liLosses.l0 k t454 ([] : List Int) l0 (l0.length : Int) 0)) = some r := h
 clear h
 replace H := Option.bind_eq_some_iff.mp H
 obtain ⟨t454, A20, H⟩ := H
 replace H : (spec_liLosses.l0 k t454 ([] : List Int) l0 (l0.length : Int) 0) = some r := H
 have A2 := Aside0.mk A20
 clear A20
 have H' := Aside0.mk H
 clear H
 go_enter Try.func64, Try.ntmps64
 go_wp2_with (first | ((with_reducible refine gate_callee (f := 56) rfl ?_); refine goesL_ (some 9) rfl rfl Try.func56 (by kernel_rfl) rfl #[.slice A0 l0.length c0] rfl (by (try simp only [List.map_toArray, List.map_cons, List.map_nil]); first | done | rfl) ?_; (with_reducible refine (spec_liFlows.calls k _ _ l0 t454 _ ?side1 ?side2 A2.out).mono ?_); (case side1 => repeat (first | exact HR0.out | (with_reducible refine Kd.C_alloc ?_ _) | (with_reducible refine Kd.C_drewN ?_ _) | (with_reducible refine Kd.C_drew ?_))); (case side2 => exact HC0.out); rintro e w3 ⟨v455, rfl, ho0, hb⟩; refine ⟨_, rfl, ?_⟩; have n0_ := Aside0.mk (Kd.R_lower ho0 (below_size (by repeat (first | (with_reducible first | exact HB.out | apply bA_ | apply bN_ | apply b1_) | exact HB.out)))); have n1_ := Aside0.mk (below_step (by repeat (first | (with_reducible first | exact HB.out | apply bA_ | apply bN_ | apply b1_) | exact HB.out)) hb); clear HB; have HO456 := n0_; have HB := n1_; clear n0_ n1_; (try clear hb); (try clear hb2); (try clear hk); (try clear hi); (try clear ho0)))
 go_loopg [4, 12] k (fun kq v4 v12 w' => ∃ (x4_1 : List Int) (x12_1 : Int), v12 = .int .i64 x12_1 ∧ Aside0 (spec_liLosses.l0 kq t454 x4_1 l0 (l0.length : Int) x12_1 = some r) ∧ Aside0 (kq ≤ k) ∧ Aside0 (Kd.R (Kd.int .i64) 3 w' w.heap.size (fun k_ => some k_ ≠ (v4 : Value).ownBlock) v455 t454) ∧ Aside0 (Kd.R (Kd.int .i64) 3 w' w.heap.size (fun k_ => some k_ ≠ (v455 : Value).ownBlock) v4 x4_1) ∧ Aside0 (Below w.heap.size w w'))
 case atStart => exact ⟨(([] : List Int)), (0), (by first | rfl | (simp; done) | (simp [*]; done)), H', ⟨Nat.le_refl _⟩, ⟨by (with_reducible repeat (first | apply Kd.R_alloc | apply Kd.R_drewN | apply Kd.R_drew)); exact Kd.R_mono HO456.out (fun _ hk => (by simp [Value.ownBlock]))⟩, ⟨by first | exact Kd.R_nil _ _ _ _ _ | exact Kd.N_nil _ _ _ _ _ | exact Kd.V_nil _ _ _ _ _ | exact Kd.Q_nil _ _ _ _ _ | exact Kd.S_nil _ _ _ _ _⟩, ⟨by repeat (first | (with_reducible first | exact HB.out | apply bA_ | apply bN_ | apply b1_) | exact HB.out)⟩⟩
 case round =>
  clear H'
  try clear p2
  obtain ⟨x4_1, x12_1, rfl, HA, HK1, HO_3, HO_4, HB⟩ := hrel
  cases gk with
  | zero => exact absurd HA.out (by simp [spec_liLosses.l0])
  | succ k1 =>
   have H := HA.out
   clear HA
   simp only [spec_liLosses.l0] at H
   by_cases c4 : x12_1 < (l0.length : Int)
   case neg =>
    rw [if_neg c4] at H
    have c4b0 : decide (x12_1 < (l0.length : Int)) = false := decide_eq_false c4
    clear c4
    obtain rfl := Option.some.inj H
    go_wp2
    go_ret
    exact ⟨_, by first | rfl | (simp [errW_none, errW_some] <;> rfl) | (simp [*, errW_none, errW_some] <;> rfl), by (with_reducible repeat (first | apply Kd.R_alloc | apply Kd.R_drewN | apply Kd.R_drew)); exact Kd.R_mono HO_4.out (fun _ hk => trivial), by repeat (first | (with_reducible first | exact HB.out | apply bA_ | apply bN_ | apply b1_) | exact HB.out)⟩
   rw [if_pos c4] at H
   have c4b0 : decide (x12_1 < (l0.length : Int)) = true := decide_eq_true c4
   clear c4
   by_cases c5 : 0 ≤ x12_1
   case neg =>
    rw [if_neg c5] at H
    exact absurd H (by simp)
   rw [if_pos c5] at H
   have c5b0 : decide (0 ≤ x12_1) = true := decide_eq_true c5
   clear c5
   by_cases c6 : x12_1 < (l0.length : Int)
   case neg =>
    rw [if_neg c6] at H
    exact absurd H (by simp)
   rw [if_pos c6] at H
   have c6b0 : decide (x12_1 < (l0.length : Int)) = true := decide_eq_true c6
   clear c6
   by_cases c7 : x12_1 < (t454.length : Int)
   case neg =>
    rw [if_neg c7] at H
    exact absurd H (by simp)
   rw [if_pos c7] at H
   have c7b0 : decide (x12_1 < (t454.length : Int)) = true := decide_eq_true c7
   clear c7
   replace H := Option.bind_eq_some_iff.mp H
   obtain ⟨t460, A80, H⟩ := H
   replace H : (if ((rd_T45 l0 x12_1).f0) ≥ 0 then (if 0 ≤ ((rd_T45 l0 x12_1).f0) then (if ((rd_T45 l0 x12_1).f0) < (x4_1.length : Int) then (if x4_1.length < 17592186044416 then (spec_liLosses.l0 k1 t454 (x4_1 ++ [wrap64 ((wrap64 (t460 + ((rd_T45 l0 x12_1).f2))) + (rd x4_1 ((rd_T45 l0 x12_1).f0)))]) l0 (l0.length : Int) (wrap64 (x12_1 + 1))) else (none)) else (none)) else (none)) else (if x4_1.length < 17592186044416 then (spec_liLosses.l0 k1 t454 (x4_1 ++ [wrap64 (t460 + ((rd_T45 l0 x12_1).f2))]) l0 (l0.length : Int) (wrap64 (x12_1 + 1))) else (none))) = some r := H
   have A8 := Aside0.mk A80
   clear A80
   by_cases c9 : ((rd_T45 l0 x12_1).f0) ≥ 0
   case neg =>
    rw [if_neg c9] at H
    have c9b0 : decide (0 ≤ ((rd_T45 l0 x12_1).f0)) = false := decide_eq_false c9
    clear c9
    by_cases c22 : x4_1.length < 17592186044416
    case neg =>
     rw [if_neg c22] at H
     exact absurd H (by simp)
    rw [if_pos c22] at H
    have LMc22 := Aside0.mk c22
    clear c22
    obtain ⟨y465, hy465⟩ : ∃ y_ : List Int, y_ = (x4_1 ++ [wrap64 (t460 + ((rd_T45 l0 x12_1).f2))]) := ⟨_, rfl⟩
    replace H : (spec_liLosses.l0 k1 t454 y465 l0 (l0.length : Int) (wrap64 (x12_1 + 1))) = some r := by first | (rw [hy465]; with_reducible exact H) | (have H2_ := (Option.bind_some _ _).symm.trans H; rw [hy465]; with_reducible exact H2_) | (have H2_ := (Option.bind_some _ _).symm.trans H; with_reducible exact H2_) | with_reducible exact H | (rw [hy465]; exact H) | exact H
    have Ny465 := Aside0.mk hy465
    clear hy465
    have H' := Aside0.mk H
    clear H
    have p457 : 0 ≤ (x12_1 : Int) := of_decide_eq_true (by first|with_reducible assumption|assumption)
    have q457 : x12_1 < (l0.length : Int) := of_decide_eq_true (by first|with_reducible assumption|assumption)
    obtain ⟨ad457, e457, hx457_0, hx457_1, hx457_2, hx457_3, hx457_4, hx457_5⟩ := at_T45 HR0.out x12_1 p457 q457
    cases e457
    replace hx457_0 := cl_ HB.out hx457_0
    replace hx457_1 := cl_ HB.out hx457_1
    replace hx457_2 := cl_ HB.out hx457_2
    replace hx457_3 := cl_ HB.out hx457_3
    replace hx457_4 := cl_ HB.out hx457_4
    replace hx457_5 := cl_ HB.out hx457_5
    replace p457 := eq_true p457
    replace q457 := eq_true q457
    try go_wp2_with (first | ((with_reducible refine gate_dst (N := 6) rfl ?_); refine box_event ?hg (N := 6) ?hd (cs := #[.int .i64 0, .int .i64 0, .int .i64 0, .int .i64 0, .int .i64 0, .int .i64 0]) (t := 45) ?hr ?_; (case hd => rfl); (case hg => rfl); (case hr => first | (go_simp; done) | (go_simp; rfl)); intro gb458 hg w23 hbox hb; have n0_ := Aside0.mk (Kd.R_below (by (with_reducible repeat (first | apply Kd.R_alloc | apply Kd.R_drewN | apply Kd.R_drew)); exact HO_3.out) hb); have n1_ := Aside0.mk (Kd.R_below (by (with_reducible repeat (first | apply Kd.R_alloc | apply Kd.R_drewN | apply Kd.R_drew)); exact HO_4.out) hb); have n2_ := Aside0.mk (below_step (by repeat (first | (with_reducible first | exact HB.out | apply bA_ | apply bN_ | apply b1_) | exact HB.out)) hb); have n3_ := Aside0.mk (hbox); have n4_ := Aside0.mk ((by rw [hg]; exact (below_size (by repeat (first | (with_reducible first | exact HB.out | apply bA_ | apply bN_ | apply b1_) | exact HB.out))) : w.heap.size ≤ gb458)); have n5_ := n4_; clear HO_3; clear HO_4; clear HB; have HO_3 := n0_; have HO_4 := n1_; have HB := n2_; have BK458 := n3_; have GW458 := n4_; have GE458 := n5_; clear n0_ n1_ n2_ n3_ n4_ n5_; clear hb hbox hg; obtain ⟨hcz24_0, hcz24_1, hcz24_2, hcz24_3, hcz24_4, hcz24_5, hfz24_0, hfz24_1, hfz24_2, hfz24_3, hfz24_4, hfz24_5⟩ := blk6_ BK458.out))
    have n0_ : Aside0 (Kd.R (Kd.int .i64) 3 ((((((w23.setCell ⟨gb458, 0, none⟩ (.int .i64 ((rd_T45 l0 x12_1).f0))).setCell ⟨gb458, 1, none⟩ (.int .i64 ((rd_T45 l0 x12_1).f1.f0))).setCell ⟨gb458, 2, none⟩ (.int .i64 ((rd_T45 l0 x12_1).f1.f1))).setCell ⟨gb458, 3, none⟩ (.int .i64 ((rd_T45 l0 x12_1).f2))).setCell ⟨gb458, 4, none⟩ (.int .i64 ((rd_T45 l0 x12_1).f3))).setCell ⟨gb458, 5, none⟩ (.int .i64 ((rd_T45 l0 x12_1).f4))) w.heap.size (fun k_ => some k_ ≠ (u4 : Value).ownBlock) v455 t454) := ⟨by (with_reducible repeat (first | apply Kd.R_alloc | apply Kd.R_drewN | apply Kd.R_drew)); exact Kd.R_mono (Kd.R_far (p := ⟨gb458, 5, none⟩) (Kd.R_far (p := ⟨gb458, 4, none⟩) (Kd.R_far (p := ⟨gb458, 3, none⟩) (Kd.R_far (p := ⟨gb458, 2, none⟩) (Kd.R_far (p := ⟨gb458, 1, none⟩) (Kd.R_far (p := ⟨gb458, 0, none⟩) (Kd.R_types HO_3.out BK458.out (by decide)) (fun _ hk => hk.2) (.int .i64 ((rd_T45 l0 x12_1).f0))) (fun _ hk => hk.2) (.int .i64 ((rd_T45 l0 x12_1).f1.f0))) (fun _ hk => hk.2) (.int .i64 ((rd_T45 l0 x12_1).f1.f1))) (fun _ hk => hk.2) (.int .i64 ((rd_T45 l0 x12_1).f2))) (fun _ hk => hk.2) (.int .i64 ((rd_T45 l0 x12_1).f3))) (fun _ hk => hk.2) (.int .i64 ((rd_T45 l0 x12_1).f4))) (fun _ hk => hk.1)⟩
    have n1_ : Aside0 (Kd.R (Kd.int .i64) 3 ((((((w23.setCell ⟨gb458, 0, none⟩ (.int .i64 ((rd_T45 l0 x12_1).f0))).setCell ⟨gb458, 1, none⟩ (.int .i64 ((rd_T45 l0 x12_1).f1.f0))).setCell ⟨gb458, 2, none⟩ (.int .i64 ((rd_T45 l0 x12_1).f1.f1))).setCell ⟨gb458, 3, none⟩ (.int .i64 ((rd_T45 l0 x12_1).f2))).setCell ⟨gb458, 4, none⟩ (.int .i64 ((rd_T45 l0 x12_1).f3))).setCell ⟨gb458, 5, none⟩ (.int .i64 ((rd_T45 l0 x12_1).f4))) w.heap.size (fun k_ => some k_ ≠ (v455 : Value).ownBlock) u4 x4_1) := ⟨by (with_reducible repeat (first | apply Kd.R_alloc | apply Kd.R_drewN | apply Kd.R_drew)); exact Kd.R_mono (Kd.R_far (p := ⟨gb458, 5, none⟩) (Kd.R_far (p := ⟨gb458, 4, none⟩) (Kd.R_far (p := ⟨gb458, 3, none⟩) (Kd.R_far (p := ⟨gb458, 2, none⟩) (Kd.R_far (p := ⟨gb458, 1, none⟩) (Kd.R_far (p := ⟨gb458, 0, none⟩) (Kd.R_types HO_4.out BK458.out (by decide)) (fun _ hk => hk.2) (.int .i64 ((rd_T45 l0 x12_1).f0))) (fun _ hk => hk.2) (.int .i64 ((rd_T45 l0 x12_1).f1.f0))) (fun _ hk => hk.2) (.int .i64 ((rd_T45 l0 x12_1).f1.f1))) (fun _ hk => hk.2) (.int .i64 ((rd_T45 l0 x12_1).f2))) (fun _ hk => hk.2) (.int .i64 ((rd_T45 l0 x12_1).f3))) (fun _ hk => hk.2) (.int .i64 ((rd_T45 l0 x12_1).f4))) (fun _ hk => hk.1)⟩
    have n2_ : Aside0 (((((((w23.setCell ⟨gb458, 0, none⟩ (.int .i64 ((rd_T45 l0 x12_1).f0))).setCell ⟨gb458, 1, none⟩ (.int .i64 ((rd_T45 l0 x12_1).f1.f0))).setCell ⟨gb458, 2, none⟩ (.int .i64 ((rd_T45 l0 x12_1).f1.f1))).setCell ⟨gb458, 3, none⟩ (.int .i64 ((rd_T45 l0 x12_1).f2))).setCell ⟨gb458, 4, none⟩ (.int .i64 ((rd_T45 l0 x12_1).f3))).setCell ⟨gb458, 5, none⟩ (.int .i64 ((rd_T45 l0 x12_1).f4))).heap[gb458]? = some (.cells #[.int .i64 ((rd_T45 l0 x12_1).f0), .int .i64 ((rd_T45 l0 x12_1).f1.f0), .int .i64 ((rd_T45 l0 x12_1).f1.f1), .int .i64 ((rd_T45 l0 x12_1).f2), .int .i64 ((rd_T45 l0 x12_1).f3), .int .i64 ((rd_T45 l0 x12_1).f4)] 45 (0, 0))) := ⟨by (with_reducible repeat (first | refine blk_drewN ?_ _ | refine blk_drew ?_ | refine blk_alloc ?_ _)); refine blk_put (cs := #[.int .i64 ((rd_T45 l0 x12_1).f0), .int .i64 ((rd_T45 l0 x12_1).f1.f0), .int .i64 ((rd_T45 l0 x12_1).f1.f1), .int .i64 ((rd_T45 l0 x12_1).f2), .int .i64 ((rd_T45 l0 x12_1).f3), .int .i64 0]) ?_ 5 _ rfl; (with_reducible repeat (first | refine blk_drewN ?_ _ | refine blk_drew ?_ | refine blk_alloc ?_ _)); refine blk_put (cs := #[.int .i64 ((rd_T45 l0 x12_1).f0), .int .i64 ((rd_T45 l0 x12_1).f1.f0), .int .i64 ((rd_T45 l0 x12_1).f1.f1), .int .i64 ((rd_T45 l0 x12_1).f2), .int .i64 0, .int .i64 0]) ?_ 4 _ rfl; (with_reducible repeat (first | refine blk_drewN ?_ _ | refine blk_drew ?_ | refine blk_alloc ?_ _)); refine blk_put (cs := #[.int .i64 ((rd_T45 l0 x12_1).f0), .int .i64 ((rd_T45 l0 x12_1).f1.f0), .int .i64 ((rd_T45 l0 x12_1).f1.f1), .int .i64 0, .int .i64 0, .int .i64 0]) ?_ 3 _ rfl; (with_reducible repeat (first | refine blk_drewN ?_ _ | refine blk_drew ?_ | refine blk_alloc ?_ _)); refine blk_put (cs := #[.int .i64 ((rd_T45 l0 x12_1).f0), .int .i64 ((rd_T45 l0 x12_1).f1.f0), .int .i64 0, .int .i64 0, .int .i64 0, .int .i64 0]) ?_ 2 _ rfl; (with_reducible repeat (first | refine blk_drewN ?_ _ | refine blk_drew ?_ | refine blk_alloc ?_ _)); refine blk_put (cs := #[.int .i64 ((rd_T45 l0 x12_1).f0), .int .i64 0, .int .i64 0, .int .i64 0, .int .i64 0, .int .i64 0]) ?_ 1 _ rfl; (with_reducible repeat (first | refine blk_drewN ?_ _ | refine blk_drew ?_ | refine blk_alloc ?_ _)); refine blk_put (cs := #[.int .i64 0, .int .i64 0, .int .i64 0, .int .i64 0, .int .i64 0, .int .i64 0]) ?_ 0 _ rfl; (with_reducible repeat (first | refine blk_drewN ?_ _ | refine blk_drew ?_ | refine blk_alloc ?_ _)); exact BK458.out⟩
    have n3_ : Aside0 (Below w.heap.size w ((((((w23.setCell ⟨gb458, 0, none⟩ (.int .i64 ((rd_T45 l0 x12_1).f0))).setCell ⟨gb458, 1, none⟩ (.int .i64 ((rd_T45 l0 x12_1).f1.f0))).setCell ⟨gb458, 2, none⟩ (.int .i64 ((rd_T45 l0 x12_1).f1.f1))).setCell ⟨gb458, 3, none⟩ (.int .i64 ((rd_T45 l0 x12_1).f2))).setCell ⟨gb458, 4, none⟩ (.int .i64 ((rd_T45 l0 x12_1).f3))).setCell ⟨gb458, 5, none⟩ (.int .i64 ((rd_T45 l0 x12_1).f4)))) := ⟨by repeat (first | (with_reducible first | exact HB.out | apply bA_ | apply bN_ | apply b1_ | refine below_set ?_ GE458.out) | exact HB.out)⟩
    (try clear HO_3)
    (try clear HO_4)
    (try clear BK458)
    (try clear HB)
    generalize ((((((w23.setCell ⟨gb458, 0, none⟩ (.int .i64 ((rd_T45 l0 x12_1).f0))).setCell ⟨gb458, 1, none⟩ (.int .i64 ((rd_T45 l0 x12_1).f1.f0))).setCell ⟨gb458, 2, none⟩ (.int .i64 ((rd_T45 l0 x12_1).f1.f1))).setCell ⟨gb458, 3, none⟩ (.int .i64 ((rd_T45 l0 x12_1).f2))).setCell ⟨gb458, 4, none⟩ (.int .i64 ((rd_T45 l0 x12_1).f3))).setCell ⟨gb458, 5, none⟩ (.int .i64 ((rd_T45 l0 x12_1).f4))) = w25 at n0_ n1_ n2_ n3_ ⊢
    have HO_3 := n0_
    have HO_4 := n1_
    have BK458 := n2_
    have HB := n3_
    clear n0_ n1_ n2_ n3_
    have n0_ := Aside0.mk (Kd.R_drew HO_3.out)
    have n1_ := Aside0.mk (Kd.R_drew HO_4.out)
    have n2_ := Aside0.mk (blk_drew BK458.out)
    have n3_ := Aside0.mk (below_drew1 HB.out)
    clear HO_3
    clear HO_4
    clear BK458
    clear HB
    have HO_3 := n0_
    have HO_4 := n1_
    have BK458 := n2_
    have HB := n3_
    clear n0_ n1_ n2_ n3_
    obtain ⟨Ao27, co27, eo27⟩ := Kd.R_slice HO_3.out
    (first | subst eo27 | (injection eo27 with f1_ f2_ f3_; have f4_ := f1_.symm; have f5_ := f3_.symm; clear f1_ f2_ f3_; subst f4_; subst f5_))
    have p459 : 0 ≤ (x12_1 : Int) := of_decide_eq_true (by first|with_reducible assumption|assumption)
    have q459 : x12_1 < (t454.length : Int) := of_decide_eq_true (by first|with_reducible assumption|assumption)
    obtain ⟨ad459, e459, hx459_0⟩ := Kd.at_int (Kd.R_reads' HO_3.out).2.2 x12_1 p459 q459
    cases e459
    replace p459 := eq_true p459
    replace q459 := eq_true q459
    refine start_ (n := 11) (S := fun w' => w'.cell? ⟨gb458, 0, none⟩ = some (.int .i64 ((rd_T45 l0 x12_1).f0)) ∧ w'.cell? ⟨gb458, 1, none⟩ = some (.int .i64 ((rd_T45 l0 x12_1).f1.f0)) ∧ w'.cell? ⟨gb458, 2, none⟩ = some (.int .i64 ((rd_T45 l0 x12_1).f1.f1)) ∧ w'.cell? ⟨gb458, 3, none⟩ = some (.int .i64 ((rd_T45 l0 x12_1).f2)) ∧ w'.cell? ⟨gb458, 4, none⟩ = some (.int .i64 ((rd_T45 l0 x12_1).f3)) ∧ w'.cell? ⟨gb458, 5, none⟩ = some (.int .i64 ((rd_T45 l0 x12_1).f4)) ∧ w'.cell? (ad459.add (x12_1).toNat) = some (.int .i64 (rd t454 x12_1))) (ds := []) #[false, false, false, false, false, false, false, false, false, false, false] (by kernel_rfl) rfl rfl ⟨(blk_cell BK458.out 0).trans rfl, (blk_cell BK458.out 1).trans rfl, (blk_cell BK458.out 2).trans rfl, (blk_cell BK458.out 3).trans rfl, (blk_cell BK458.out 4).trans rfl, (blk_cell BK458.out 5).trans rfl, hx459_0⟩ (fun hHeld => ?_); refine with_tabW spec_liLosses.tab6 spec_liLosses.bits6 (fun HT_ HW_ => ?_)
    generalize w25.drew = w26 at HO_3 HO_4 BK458 HB hx459_0 hHeld ⊢
    refine pure_ (i := 0) (N := some 17) (v := ?_) (a' := ?_) #[true, false, false, false, false, false, false, false, false, false, false] rfl rfl (any_of HT_.out (by kernel_rfl)) (fun _ _ _ h => h) (Or.inl ⟨by rfl, ?_⟩) ?_ ?_
    rotate_left
    · intro w'
      go_simp
      with_reducible rfl
    rotate_left
    · simp only [Act.put, List.setIfInBounds_toArray, List.set_cons_zero, List.set_cons_succ, i64_w, i32_w]
      rfl
    refine pure_ (i := 2) (N := some 19) (v := ?_) (a' := ?_) #[true, false, true, false, false, false, false, false, false, false, false] rfl rfl (any_of HT_.out (by kernel_rfl)) (fun _ _ _ h => h) (Or.inl ⟨by rfl, ?_⟩) ?_ ?_
    rotate_left
    · intro w'
      go_simp
      with_reducible rfl
    rotate_left
    · simp only [Act.put, List.setIfInBounds_toArray, List.set_cons_zero, List.set_cons_succ, i64_w, i32_w]
      rfl
    refine pure_ (i := 3) (N := some 20) (v := ?_) (a' := ?_) #[true, false, true, true, false, false, false, false, false, false, false] rfl rfl (any_of HT_.out (by kernel_rfl)) (fun _ _ _ h => h) (Or.inl ⟨by rfl, ?_⟩) ?_ ?_
    rotate_left
    · intro w'
      go_simp
      with_reducible rfl
    rotate_left
    · simp only [Act.put, List.setIfInBounds_toArray, List.set_cons_zero, List.set_cons_succ, i64_w, i32_w]
      rfl
    refine pure_ (i := 4) (N := some 21) (v := ?_) (a' := ?_) #[true, false, true, true, true, false, false, false, false, false, false] rfl rfl (any_of HT_.out (by kernel_rfl)) (fun _ _ _ h => h) (Or.inl ⟨by rfl, ?_⟩) ?_ ?_
    rotate_left
    · intro w'
      go_simp
      with_reducible rfl
    rotate_left
    · simp only [Act.put, List.setIfInBounds_toArray, List.set_cons_zero, List.set_cons_succ, i64_w, i32_w]
      rfl
    refine pure_ (i := 7) (N := some 24) (v := ?_) (a' := ?_) #[true, false, true, true, true, false, false, true, false, false, false] rfl rfl (any_of HT_.out (by kernel_rfl)) (fun _ _ _ h => h) (Or.inl ⟨by rfl, ?_⟩) ?_ ?_
    rotate_left
    · intro w'
      go_simp
      with_reducible rfl
    rotate_left
    · simp only [Act.put, List.setIfInBounds_toArray, List.set_cons_zero, List.set_cons_succ, i64_w, i32_w]
      rfl
    refine take_ (i := 1) (N := some 18) (v := ?_) (a' := ?_) #[true, true, true, true, true, false, false, true, false, false, false] rfl rfl (take_ofW HT_.out HW_.out (by kernel_rfl)) (fun _ _ _ h => h) (Or.inl ⟨by rfl, ?_⟩) hHeld ?_ ?_
    rotate_left
    · rintro w' ⟨s0, s1, s2, s3, s4, s5, s6⟩
      go_simp
      with_reducible rfl
    rotate_left
    · simp only [Act.put, List.setIfInBounds_toArray, List.set_cons_zero, List.set_cons_succ, i64_w, i32_w]
      rfl
    refine take_ (i := 5) (N := some 22) (v := ?_) (a' := ?_) #[true, true, true, true, true, true, false, true, false, false, false] rfl rfl (take_ofW HT_.out HW_.out (by kernel_rfl)) (fun _ _ _ h => h) (Or.inl ⟨by rfl, ?_⟩) hHeld ?_ ?_
    rotate_left
    · rintro w' ⟨s0, s1, s2, s3, s4, s5, s6⟩
      go_simp
      with_reducible rfl
    rotate_left
    · simp only [Act.put, List.setIfInBounds_toArray, List.set_cons_zero, List.set_cons_succ, i64_w, i32_w]
      rfl
    refine take_ (i := 8) (N := some 25) (v := ?_) (a' := ?_) #[true, true, true, true, true, true, false, true, true, false, false] rfl rfl (take_ofW HT_.out HW_.out (by kernel_rfl)) (fun _ _ _ h => h) (Or.inl ⟨by rfl, ?_⟩) hHeld ?_ ?_
    rotate_left
    · rintro w' ⟨s0, s1, s2, s3, s4, s5, s6⟩
      go_simp
      with_reducible rfl
    rotate_left
    · simp only [Act.put, List.setIfInBounds_toArray, List.set_cons_zero, List.set_cons_succ, i64_w, i32_w]
      rfl
    refine one_ (i := 6) (N := some 23) #[true, true, true, true, true, true, true, true, true, false, false] rfl rfl (one_of HT_.out (by kernel_rfl)) (by decide) (fun K hK => ?_)
    refine goes_ Try.func74 (by kernel_rfl) rfl #[.agg #[.int .i64 ((rd_T45 l0 x12_1).f1.f0), .int .i64 ((rd_T45 l0 x12_1).f1.f1)], .int .i64 (rd t454 x12_1)] (by rfl) rfl rfl (by (try simp only [List.map_toArray, List.map_cons, List.map_nil]); first | done | rfl) ?_
    with_reducible refine (spec_hoLoss.calls ((rd_T45 l0 x12_1).f1.f0) ((rd_T45 l0 x12_1).f1.f1) (rd t454 x12_1) t460 _ A8.out).mono ?_
    rintro e w28 ⟨rfl, hb⟩
    have HS6_ := (hb.cell (World.block_lt_of_cell? _ _ (hHeld.2.2.2.2.2.2))).trans (hHeld.2.2.2.2.2.2)
    refine ⟨_, rfl, ?_⟩
    have n0_ := Aside0.mk (Kd.R_below (by (with_reducible repeat (first | apply Kd.R_alloc | apply Kd.R_drewN | apply Kd.R_drew)); exact HO_3.out) hb)
    have n1_ := Aside0.mk (Kd.R_below (by (with_reducible repeat (first | apply Kd.R_alloc | apply Kd.R_drewN | apply Kd.R_drew)); exact HO_4.out) hb)
    have n2_ := Aside0.mk (blk_below (g := gb458) (o := .cells #[.int .i64 ((rd_T45 l0 x12_1).f0), .int .i64 ((rd_T45 l0 x12_1).f1.f0), .int .i64 ((rd_T45 l0 x12_1).f1.f1), .int .i64 ((rd_T45 l0 x12_1).f2), .int .i64 ((rd_T45 l0 x12_1).f3), .int .i64 ((rd_T45 l0 x12_1).f4)] 45 (0, 0)) (by (with_reducible repeat (first | refine blk_drewN ?_ _ | refine blk_drew ?_ | refine blk_alloc ?_ _)); exact BK458.out) hb)
    have n3_ := Aside0.mk (below_step (by repeat (first | (with_reducible first | exact HB.out | apply bA_ | apply bN_ | apply b1_ | refine below_set ?_ GE458.out) | exact HB.out)) hb)
    clear HO_3
    clear HO_4
    clear BK458
    clear HB
    have HO_3 := n0_
    have HO_4 := n1_
    have BK458 := n2_
    have HB := n3_
    clear n0_ n1_ n2_ n3_
    (try clear hb)
    (try clear hb2)
    (try clear hk)
    (try clear hi)
    refine hK.out _ _ ⟨(blk_cell BK458.out 0).trans rfl, (blk_cell BK458.out 1).trans rfl, (blk_cell BK458.out 2).trans rfl, (blk_cell BK458.out 3).trans rfl, (blk_cell BK458.out 4).trans rfl, (blk_cell BK458.out 5).trans rfl, HS6_⟩ (fun hHeld => ?_)
    clear hK K
    refine norm_ (a' := ?_) ?_ ?_
    rotate_left
    · show Act.put _ (some 23) _ = _
      simp only [Act.put, List.setIfInBounds_toArray, List.set_cons_zero, List.set_cons_succ, i64_w, i32_w]
      rfl
    refine pure_ (i := 9) (N := some 26) (v := ?_) (a' := ?_) #[true, true, true, true, true, true, true, true, true, true, false] rfl rfl (any_of HT_.out (by kernel_rfl)) (fun _ _ _ h => h) (Or.inl ⟨by rfl, ?_⟩) ?_ ?_
    rotate_left
    · intro w'
      go_simp
      with_reducible rfl
    rotate_left
    · simp only [Act.put, List.setIfInBounds_toArray, List.set_cons_zero, List.set_cons_succ, i64_w, i32_w]
      rfl
    refine pure_ (i := 10) (N := some 7) (v := ?_) (a' := ?_) #[true, true, true, true, true, true, true, true, true, true, true] rfl rfl (any_of HT_.out (by kernel_rfl)) (fun _ _ _ h => h) (Or.inl ⟨by rfl, ?_⟩) ?_ ?_
    rotate_left
    · intro w'
      go_simp
      with_reducible rfl
    rotate_left
    · simp only [Act.put, List.setIfInBounds_toArray, List.set_cons_zero, List.set_cons_succ, i64_w, i32_w]
      rfl
    refine done_ (done_of HT_.out (by kernel_rfl)) ?_
    obtain ⟨hcz29_0, hcz29_1, hcz29_2, hcz29_3, hcz29_4, hcz29_5, hfz29_0, hfz29_1, hfz29_2, hfz29_3, hfz29_4, hfz29_5⟩ := blk6_ BK458.out
    try go_wp2_with (first | ((with_reducible refine gate_builtin (b := .append) (xs := #[.tmp 37, .tmp 39]) rfl ?_); at_builtin; refine Kd.R_append (Kd.int .i64) (w0 := w) w.heap.size rfl (.tmp 37) (.tmp 39) 31 3 (.int .i64 0) 8 rfl Try.underlying31 info3 rfl (by decide) (by omega) u4 x4_1 (wrap64 (t460 + ((rd_T45 l0 x12_1).f2))) [.int .i64 (wrap64 (t460 + ((rd_T45 l0 x12_1).f2)))] (fun k_ => some k_ ≠ (.slice (some ad459) t454.length co27 : Value).ownBlock) (fun _ => False) rfl rfl ?aP (fun _ hk => hk.elim) ?aF ?aO ?aB ?aS ?aL ?_; (case aP => exact rfl); (case aB => exact (by repeat (first | (with_reducible first | exact HB.out | apply bA_ | apply bN_ | apply b1_ | refine below_set ?_ GE458.out) | exact HB.out))); (case aF => exact (fun k_ hk => Kd.fresh' (Kd.R_lt (by (with_reducible repeat (first | apply Kd.R_alloc | apply Kd.R_drewN | apply Kd.R_drew)); exact HO_3.out)) k_ hk)); (case aO => exact (by (with_reducible repeat (first | apply Kd.R_alloc | apply Kd.R_drewN | apply Kd.R_drew)); exact HO_4.out)); (case aS => exact (below_size (by repeat (first | (with_reducible first | exact HB.out | apply bA_ | apply bN_ | apply b1_ | refine below_set ?_ GE458.out) | exact HB.out)))); (case aL => have := LMc22.out; omega); intro v466 w30 ho hb hg hat; rw [← Ny465.out] at ho; have n0_ := Aside0.mk (Kd.R_after (ok := (fun _ => True)) (by (with_reducible repeat (first | apply Kd.R_alloc | apply Kd.R_drewN | apply Kd.R_drew)); exact Kd.R_mono HO_3.out (fun _ hk => ⟨trivial, hk⟩)) hg hat); have n1_ := Aside0.mk (blk_grown (g := gb458) (o := .cells #[.int .i64 ((rd_T45 l0 x12_1).f0), .int .i64 ((rd_T45 l0 x12_1).f1.f0), .int .i64 ((rd_T45 l0 x12_1).f1.f1), .int .i64 ((rd_T45 l0 x12_1).f2), .int .i64 ((rd_T45 l0 x12_1).f3), .int .i64 ((rd_T45 l0 x12_1).f4)] 45 (0, 0)) (by (with_reducible repeat (first | refine blk_drewN ?_ _ | refine blk_drew ?_ | refine blk_alloc ?_ _)); exact BK458.out) hg (Kd.R_ne HO_4.out BK458.out (by decide))); have n2_ := Aside0.mk (hb); have n3_ := Aside0.mk (ho); clear HO_3; clear BK458; clear HB; clear HO_4; have HO_3 := n0_; have BK458 := n1_; have HB := n2_; have HO467 := n3_; clear n0_ n1_ n2_ n3_; clear ho hb hg hat))
    go_roundg k1
    case measure => have := HK1.out; omega
    case rel => exact ⟨(y465), (wrap64 (x12_1 + 1)), (by first | rfl | (simp; done) | (simp [*]; done)), H', ⟨by have := HK1.out; omega⟩, ⟨by (with_reducible repeat (first | apply Kd.R_alloc | apply Kd.R_drewN | apply Kd.R_drew)); exact Kd.R_mono HO_3.out (fun _ hk => hk.2)⟩, ⟨by (with_reducible repeat (first | apply Kd.R_alloc | apply Kd.R_drewN | apply Kd.R_drew)); exact HO467.out⟩, ⟨by repeat (first | (with_reducible first | exact HB.out | apply bA_ | apply bN_ | apply b1_ | refine below_set ?_ GE458.out) | exact HB.out)⟩⟩
   rw [if_pos c9] at H
   have c9b0 : decide (0 ≤ ((rd_T45 l0 x12_1).f0)) = true := decide_eq_true c9
   clear c9
   by_cases c10 : 0 ≤ ((rd_T45 l0 x12_1).f0)
   case neg =>
    rw [if_neg c10] at H
    exact absurd H (by simp)
   rw [if_pos c10] at H
   have c10b0 : decide (0 ≤ ((rd_T45 l0 x12_1).f0)) = true := decide_eq_true c10
   clear c10
   by_cases c11 : ((rd_T45 l0 x12_1).f0) < (x4_1.length : Int)
   case neg =>
    rw [if_neg c11] at H
    exact absurd H (by simp)
   rw [if_pos c11] at H
   have c11b0 : decide (((rd_T45 l0 x12_1).f0) < (x4_1.length : Int)) = true := decide_eq_true c11
   clear c11
   by_cases c12 : x4_1.length < 17592186044416
   case neg =>
    rw [if_neg c12] at H
    exact absurd H (by simp)
   rw [if_pos c12] at H
   have LMc12 := Aside0.mk c12
   clear c12
   obtain ⟨y462, hy462⟩ : ∃ y_ : List Int, y_ = (x4_1 ++ [wrap64 ((wrap64 (t460 + ((rd_T45 l0 x12_1).f2))) + (rd x4_1 ((rd_T45 l0 x12_1).f0)))]) := ⟨_, rfl⟩
   replace H : (spec_liLosses.l0 k1 t454 y462 l0 (l0.length : Int) (wrap64 (x12_1 + 1))) = some r := by first | (rw [hy462]; with_reducible exact H) | (have H2_ := (Option.bind_some _ _).symm.trans H; rw [hy462]; with_reducible exact H2_) | (have H2_ := (Option.bind_some _ _).symm.trans H; with_reducible exact H2_) | with_reducible exact H | (rw [hy462]; exact H) | exact H
   have Ny462 := Aside0.mk hy462
   clear hy462
   have H' := Aside0.mk H
   clear H
   have p457 : 0 ≤ (x12_1 : Int) := of_decide_eq_true (by first|with_reducible assumption|assumption)
   have q457 : x12_1 < (l0.length : Int) := of_decide_eq_true (by first|with_reducible assumption|assumption)
   obtain ⟨ad457, e457, hx457_0, hx457_1, hx457_2, hx457_3, hx457_4, hx457_5⟩ := at_T45 HR0.out x12_1 p457 q457
   cases e457
   replace hx457_0 := cl_ HB.out hx457_0
   replace hx457_1 := cl_ HB.out hx457_1
   replace hx457_2 := cl_ HB.out hx457_2
   replace hx457_3 := cl_ HB.out hx457_3
   replace hx457_4 := cl_ HB.out hx457_4
   replace hx457_5 := cl_ HB.out hx457_5
   replace p457 := eq_true p457
   replace q457 := eq_true q457
   try go_wp2_with (first | ((with_reducible refine gate_dst (N := 6) rfl ?_); refine box_event ?hg (N := 6) ?hd (cs := #[.int .i64 0, .int .i64 0, .int .i64 0, .int .i64 0, .int .i64 0, .int .i64 0]) (t := 45) ?hr ?_; (case hd => rfl); (case hg => rfl); (case hr => first | (go_simp; done) | (go_simp; rfl)); intro gb458 hg w13 hbox hb; have n0_ := Aside0.mk (Kd.R_below (by (with_reducible repeat (first | apply Kd.R_alloc | apply Kd.R_drewN | apply Kd.R_drew)); exact HO_3.out) hb); have n1_ := Aside0.mk (Kd.R_below (by (with_reducible repeat (first | apply Kd.R_alloc | apply Kd.R_drewN | apply Kd.R_drew)); exact HO_4.out) hb); have n2_ := Aside0.mk (below_step (by repeat (first | (with_reducible first | exact HB.out | apply bA_ | apply bN_ | apply b1_) | exact HB.out)) hb); have n3_ := Aside0.mk (hbox); have n4_ := Aside0.mk ((by rw [hg]; exact (below_size (by repeat (first | (with_reducible first | exact HB.out | apply bA_ | apply bN_ | apply b1_) | exact HB.out))) : w.heap.size ≤ gb458)); have n5_ := n4_; clear HO_3; clear HO_4; clear HB; have HO_3 := n0_; have HO_4 := n1_; have HB := n2_; have BK458 := n3_; have GW458 := n4_; have GE458 := n5_; clear n0_ n1_ n2_ n3_ n4_ n5_; clear hb hbox hg; obtain ⟨hcz14_0, hcz14_1, hcz14_2, hcz14_3, hcz14_4, hcz14_5, hfz14_0, hfz14_1, hfz14_2, hfz14_3, hfz14_4, hfz14_5⟩ := blk6_ BK458.out))
   have n0_ : Aside0 (Kd.R (Kd.int .i64) 3 ((((((w13.setCell ⟨gb458, 0, none⟩ (.int .i64 ((rd_T45 l0 x12_1).f0))).setCell ⟨gb458, 1, none⟩ (.int .i64 ((rd_T45 l0 x12_1).f1.f0))).setCell ⟨gb458, 2, none⟩ (.int .i64 ((rd_T45 l0 x12_1).f1.f1))).setCell ⟨gb458, 3, none⟩ (.int .i64 ((rd_T45 l0 x12_1).f2))).setCell ⟨gb458, 4, none⟩ (.int .i64 ((rd_T45 l0 x12_1).f3))).setCell ⟨gb458, 5, none⟩ (.int .i64 ((rd_T45 l0 x12_1).f4))) w.heap.size (fun k_ => some k_ ≠ (u4 : Value).ownBlock) v455 t454) := ⟨by (with_reducible repeat (first | apply Kd.R_alloc | apply Kd.R_drewN | apply Kd.R_drew)); exact Kd.R_mono (Kd.R_far (p := ⟨gb458, 5, none⟩) (Kd.R_far (p := ⟨gb458, 4, none⟩) (Kd.R_far (p := ⟨gb458, 3, none⟩) (Kd.R_far (p := ⟨gb458, 2, none⟩) (Kd.R_far (p := ⟨gb458, 1, none⟩) (Kd.R_far (p := ⟨gb458, 0, none⟩) (Kd.R_types HO_3.out BK458.out (by decide)) (fun _ hk => hk.2) (.int .i64 ((rd_T45 l0 x12_1).f0))) (fun _ hk => hk.2) (.int .i64 ((rd_T45 l0 x12_1).f1.f0))) (fun _ hk => hk.2) (.int .i64 ((rd_T45 l0 x12_1).f1.f1))) (fun _ hk => hk.2) (.int .i64 ((rd_T45 l0 x12_1).f2))) (fun _ hk => hk.2) (.int .i64 ((rd_T45 l0 x12_1).f3))) (fun _ hk => hk.2) (.int .i64 ((rd_T45 l0 x12_1).f4))) (fun _ hk => hk.1)⟩
   have n1_ : Aside0 (Kd.R (Kd.int .i64) 3 ((((((w13.setCell ⟨gb458, 0, none⟩ (.int .i64 ((rd_T45 l0 x12_1).f0))).setCell ⟨gb458, 1, none⟩ (.int .i64 ((rd_T45 l0 x12_1).f1.f0))).setCell ⟨gb458, 2, none⟩ (.int .i64 ((rd_T45 l0 x12_1).f1.f1))).setCell ⟨gb458, 3, none⟩ (.int .i64 ((rd_T45 l0 x12_1).f2))).setCell ⟨gb458, 4, none⟩ (.int .i64 ((rd_T45 l0 x12_1).f3))).setCell ⟨gb458, 5, none⟩ (.int .i64 ((rd_T45 l0 x12_1).f4))) w.heap.size (fun k_ => some k_ ≠ (v455 : Value).ownBlock) u4 x4_1) := ⟨by (with_reducible repeat (first | apply Kd.R_alloc | apply Kd.R_drewN | apply Kd.R_drew)); exact Kd.R_mono (Kd.R_far (p := ⟨gb458, 5, none⟩) (Kd.R_far (p := ⟨gb458, 4, none⟩) (Kd.R_far (p := ⟨gb458, 3, none⟩) (Kd.R_far (p := ⟨gb458, 2, none⟩) (Kd.R_far (p := ⟨gb458, 1, none⟩) (Kd.R_far (p := ⟨gb458, 0, none⟩) (Kd.R_types HO_4.out BK458.out (by decide)) (fun _ hk => hk.2) (.int .i64 ((rd_T45 l0 x12_1).f0))) (fun _ hk => hk.2) (.int .i64 ((rd_T45 l0 x12_1).f1.f0))) (fun _ hk => hk.2) (.int .i64 ((rd_T45 l0 x12_1).f1.f1))) (fun _ hk => hk.2) (.int .i64 ((rd_T45 l0 x12_1).f2))) (fun _ hk => hk.2) (.int .i64 ((rd_T45 l0 x12_1).f3))) (fun _ hk => hk.2) (.int .i64 ((rd_T45 l0 x12_1).f4))) (fun _ hk => hk.1)⟩
   have n2_ : Aside0 (((((((w13.setCell ⟨gb458, 0, none⟩ (.int .i64 ((rd_T45 l0 x12_1).f0))).setCell ⟨gb458, 1, none⟩ (.int .i64 ((rd_T45 l0 x12_1).f1.f0))).setCell ⟨gb458, 2, none⟩ (.int .i64 ((rd_T45 l0 x12_1).f1.f1))).setCell ⟨gb458, 3, none⟩ (.int .i64 ((rd_T45 l0 x12_1).f2))).setCell ⟨gb458, 4, none⟩ (.int .i64 ((rd_T45 l0 x12_1).f3))).setCell ⟨gb458, 5, none⟩ (.int .i64 ((rd_T45 l0 x12_1).f4))).heap[gb458]? = some (.cells #[.int .i64 ((rd_T45 l0 x12_1).f0), .int .i64 ((rd_T45 l0 x12_1).f1.f0), .int .i64 ((rd_T45 l0 x12_1).f1.f1), .int .i64 ((rd_T45 l0 x12_1).f2), .int .i64 ((rd_T45 l0 x12_1).f3), .int .i64 ((rd_T45 l0 x12_1).f4)] 45 (0, 0))) := ⟨by (with_reducible repeat (first | refine blk_drewN ?_ _ | refine blk_drew ?_ | refine blk_alloc ?_ _)); refine blk_put (cs := #[.int .i64 ((rd_T45 l0 x12_1).f0), .int .i64 ((rd_T45 l0 x12_1).f1.f0), .int .i64 ((rd_T45 l0 x12_1).f1.f1), .int .i64 ((rd_T45 l0 x12_1).f2), .int .i64 ((rd_T45 l0 x12_1).f3), .int .i64 0]) ?_ 5 _ rfl; (with_reducible repeat (first | refine blk_drewN ?_ _ | refine blk_drew ?_ | refine blk_alloc ?_ _)); refine blk_put (cs := #[.int .i64 ((rd_T45 l0 x12_1).f0), .int .i64 ((rd_T45 l0 x12_1).f1.f0), .int .i64 ((rd_T45 l0 x12_1).f1.f1), .int .i64 ((rd_T45 l0 x12_1).f2), .int .i64 0, .int .i64 0]) ?_ 4 _ rfl; (with_reducible repeat (first | refine blk_drewN ?_ _ | refine blk_drew ?_ | refine blk_alloc ?_ _)); refine blk_put (cs := #[.int .i64 ((rd_T45 l0 x12_1).f0), .int .i64 ((rd_T45 l0 x12_1).f1.f0), .int .i64 ((rd_T45 l0 x12_1).f1.f1), .int .i64 0, .int .i64 0, .int .i64 0]) ?_ 3 _ rfl; (with_reducible repeat (first | refine blk_drewN ?_ _ | refine blk_drew ?_ | refine blk_alloc ?_ _)); refine blk_put (cs := #[.int .i64 ((rd_T45 l0 x12_1).f0), .int .i64 ((rd_T45 l0 x12_1).f1.f0), .int .i64 0, .int .i64 0, .int .i64 0, .int .i64 0]) ?_ 2 _ rfl; (with_reducible repeat (first | refine blk_drewN ?_ _ | refine blk_drew ?_ | refine blk_alloc ?_ _)); refine blk_put (cs := #[.int .i64 ((rd_T45 l0 x12_1).f0), .int .i64 0, .int .i64 0, .int .i64 0, .int .i64 0, .int .i64 0]) ?_ 1 _ rfl; (with_reducible repeat (first | refine blk_drewN ?_ _ | refine blk_drew ?_ | refine blk_alloc ?_ _)); refine blk_put (cs := #[.int .i64 0, .int .i64 0, .int .i64 0, .int .i64 0, .int .i64 0, .int .i64 0]) ?_ 0 _ rfl; (with_reducible repeat (first | refine blk_drewN ?_ _ | refine blk_drew ?_ | refine blk_alloc ?_ _)); exact BK458.out⟩
   have n3_ : Aside0 (Below w.heap.size w ((((((w13.setCell ⟨gb458, 0, none⟩ (.int .i64 ((rd_T45 l0 x12_1).f0))).setCell ⟨gb458, 1, none⟩ (.int .i64 ((rd_T45 l0 x12_1).f1.f0))).setCell ⟨gb458, 2, none⟩ (.int .i64 ((rd_T45 l0 x12_1).f1.f1))).setCell ⟨gb458, 3, none⟩ (.int .i64 ((rd_T45 l0 x12_1).f2))).setCell ⟨gb458, 4, none⟩ (.int .i64 ((rd_T45 l0 x12_1).f3))).setCell ⟨gb458, 5, none⟩ (.int .i64 ((rd_T45 l0 x12_1).f4)))) := ⟨by repeat (first | (with_reducible first | exact HB.out | apply bA_ | apply bN_ | apply b1_ | refine below_set ?_ GE458.out) | exact HB.out)⟩
   (try clear HO_3)
   (try clear HO_4)
   (try clear BK458)
   (try clear HB)
   generalize ((((((w13.setCell ⟨gb458, 0, none⟩ (.int .i64 ((rd_T45 l0 x12_1).f0))).setCell ⟨gb458, 1, none⟩ (.int .i64 ((rd_T45 l0 x12_1).f1.f0))).setCell ⟨gb458, 2, none⟩ (.int .i64 ((rd_T45 l0 x12_1).f1.f1))).setCell ⟨gb458, 3, none⟩ (.int .i64 ((rd_T45 l0 x12_1).f2))).setCell ⟨gb458, 4, none⟩ (.int .i64 ((rd_T45 l0 x12_1).f3))).setCell ⟨gb458, 5, none⟩ (.int .i64 ((rd_T45 l0 x12_1).f4))) = w15 at n0_ n1_ n2_ n3_ ⊢
   have HO_3 := n0_
   have HO_4 := n1_
   have BK458 := n2_
   have HB := n3_
   clear n0_ n1_ n2_ n3_
   have n0_ := Aside0.mk (Kd.R_drew HO_3.out)
   have n1_ := Aside0.mk (Kd.R_drew HO_4.out)
   have n2_ := Aside0.mk (blk_drew BK458.out)
   have n3_ := Aside0.mk (below_drew1 HB.out)
   clear HO_3
   clear HO_4
   clear BK458
   clear HB
   have HO_3 := n0_
   have HO_4 := n1_
   have BK458 := n2_
   have HB := n3_
   clear n0_ n1_ n2_ n3_
   obtain ⟨Ao17, co17, eo17⟩ := Kd.R_slice HO_3.out
   (first | subst eo17 | (injection eo17 with f1_ f2_ f3_; have f4_ := f1_.symm; have f5_ := f3_.symm; clear f1_ f2_ f3_; subst f4_; subst f5_))
   have p459 : 0 ≤ (x12_1 : Int) := of_decide_eq_true (by first|with_reducible assumption|assumption)
   have q459 : x12_1 < (t454.length : Int) := of_decide_eq_true (by first|with_reducible assumption|assumption)
   obtain ⟨ad459, e459, hx459_0⟩ := Kd.at_int (Kd.R_reads' HO_3.out).2.2 x12_1 p459 q459
   cases e459
   replace p459 := eq_true p459
   replace q459 := eq_true q459
   refine start_ (n := 11) (S := fun w' => w'.cell? ⟨gb458, 0, none⟩ = some (.int .i64 ((rd_T45 l0 x12_1).f0)) ∧ w'.cell? ⟨gb458, 1, none⟩ = some (.int .i64 ((rd_T45 l0 x12_1).f1.f0)) ∧ w'.cell? ⟨gb458, 2, none⟩ = some (.int .i64 ((rd_T45 l0 x12_1).f1.f1)) ∧ w'.cell? ⟨gb458, 3, none⟩ = some (.int .i64 ((rd_T45 l0 x12_1).f2)) ∧ w'.cell? ⟨gb458, 4, none⟩ = some (.int .i64 ((rd_T45 l0 x12_1).f3)) ∧ w'.cell? ⟨gb458, 5, none⟩ = some (.int .i64 ((rd_T45 l0 x12_1).f4)) ∧ w'.cell? (ad459.add (x12_1).toNat) = some (.int .i64 (rd t454 x12_1))) (ds := []) #[false, false, false, false, false, false, false, false, false, false, false] (by kernel_rfl) rfl rfl ⟨(blk_cell BK458.out 0).trans rfl, (blk_cell BK458.out 1).trans rfl, (blk_cell BK458.out 2).trans rfl, (blk_cell BK458.out 3).trans rfl, (blk_cell BK458.out 4).trans rfl, (blk_cell BK458.out 5).trans rfl, hx459_0⟩ (fun hHeld => ?_); refine with_tabW spec_liLosses.tab6 spec_liLosses.bits6 (fun HT_ HW_ => ?_)
   generalize w15.drew = w16 at HO_3 HO_4 BK458 HB hx459_0 hHeld ⊢
   refine pure_ (i := 0) (N := some 17) (v := ?_) (a' := ?_) #[true, false, false, false, false, false, false, false, false, false, false] rfl rfl (any_of HT_.out (by kernel_rfl)) (fun _ _ _ h => h) (Or.inl ⟨by rfl, ?_⟩) ?_ ?_
   rotate_left
   · intro w'
     go_simp
     with_reducible rfl
   rotate_left
   · simp only [Act.put, List.setIfInBounds_toArray, List.set_cons_zero, List.set_cons_succ, i64_w, i32_w]
     rfl
   refine pure_ (i := 2) (N := some 19) (v := ?_) (a' := ?_) #[true, false, true, false, false, false, false, false, false, false, false] rfl rfl (any_of HT_.out (by kernel_rfl)) (fun _ _ _ h => h) (Or.inl ⟨by rfl, ?_⟩) ?_ ?_
   rotate_left
   · intro w'
     go_simp
     with_reducible rfl
   rotate_left
   · simp only [Act.put, List.setIfInBounds_toArray, List.set_cons_zero, List.set_cons_succ, i64_w, i32_w]
     rfl
   refine pure_ (i := 3) (N := some 20) (v := ?_) (a' := ?_) #[true, false, true, true, false, false, false, false, false, false, false] rfl rfl (any_of HT_.out (by kernel_rfl)) (fun _ _ _ h => h) (Or.inl ⟨by rfl, ?_⟩) ?_ ?_
   rotate_left
   · intro w'
     go_simp
     with_reducible rfl
   rotate_left
   · simp only [Act.put, List.setIfInBounds_toArray, List.set_cons_zero, List.set_cons_succ, i64_w, i32_w]
     rfl
   refine pure_ (i := 4) (N := some 21) (v := ?_) (a' := ?_) #[true, false, true, true, true, false, false, false, false, false, false] rfl rfl (any_of HT_.out (by kernel_rfl)) (fun _ _ _ h => h) (Or.inl ⟨by rfl, ?_⟩) ?_ ?_
   rotate_left
   · intro w'
     go_simp
     with_reducible rfl
   rotate_left
   · simp only [Act.put, List.setIfInBounds_toArray, List.set_cons_zero, List.set_cons_succ, i64_w, i32_w]
     rfl
   refine pure_ (i := 7) (N := some 24) (v := ?_) (a' := ?_) #[true, false, true, true, true, false, false, true, false, false, false] rfl rfl (any_of HT_.out (by kernel_rfl)) (fun _ _ _ h => h) (Or.inl ⟨by rfl, ?_⟩) ?_ ?_
   rotate_left
   · intro w'
     go_simp
     with_reducible rfl
   rotate_left
   · simp only [Act.put, List.setIfInBounds_toArray, List.set_cons_zero, List.set_cons_succ, i64_w, i32_w]
     rfl
   refine take_ (i := 1) (N := some 18) (v := ?_) (a' := ?_) #[true, true, true, true, true, false, false, true, false, false, false] rfl rfl (take_ofW HT_.out HW_.out (by kernel_rfl)) (fun _ _ _ h => h) (Or.inl ⟨by rfl, ?_⟩) hHeld ?_ ?_
   rotate_left
   · rintro w' ⟨s0, s1, s2, s3, s4, s5, s6⟩
     go_simp
     with_reducible rfl
   rotate_left
   · simp only [Act.put, List.setIfInBounds_toArray, List.set_cons_zero, List.set_cons_succ, i64_w, i32_w]
     rfl
   refine take_ (i := 5) (N := some 22) (v := ?_) (a' := ?_) #[true, true, true, true, true, true, false, true, false, false, false] rfl rfl (take_ofW HT_.out HW_.out (by kernel_rfl)) (fun _ _ _ h => h) (Or.inl ⟨by rfl, ?_⟩) hHeld ?_ ?_
   rotate_left
   · rintro w' ⟨s0, s1, s2, s3, s4, s5, s6⟩
     go_simp
     with_reducible rfl
   rotate_left
   · simp only [Act.put, List.setIfInBounds_toArray, List.set_cons_zero, List.set_cons_succ, i64_w, i32_w]
     rfl
   refine take_ (i := 8) (N := some 25) (v := ?_) (a' := ?_) #[true, true, true, true, true, true, false, true, true, false, false] rfl rfl (take_ofW HT_.out HW_.out (by kernel_rfl)) (fun _ _ _ h => h) (Or.inl ⟨by rfl, ?_⟩) hHeld ?_ ?_
   rotate_left
   · rintro w' ⟨s0, s1, s2, s3, s4, s5, s6⟩
     go_simp
     with_reducible rfl
   rotate_left
   · simp only [Act.put, List.setIfInBounds_toArray, List.set_cons_zero, List.set_cons_succ, i64_w, i32_w]
     rfl
   refine one_ (i := 6) (N := some 23) #[true, true, true, true, true, true, true, true, true, false, false] rfl rfl (one_of HT_.out (by kernel_rfl)) (by decide) (fun K hK => ?_)
   refine goes_ Try.func74 (by kernel_rfl) rfl #[.agg #[.int .i64 ((rd_T45 l0 x12_1).f1.f0), .int .i64 ((rd_T45 l0 x12_1).f1.f1)], .int .i64 (rd t454 x12_1)] (by rfl) rfl rfl (by (try simp only [List.map_toArray, List.map_cons, List.map_nil]); first | done | rfl) ?_
   with_reducible refine (spec_hoLoss.calls ((rd_T45 l0 x12_1).f1.f0) ((rd_T45 l0 x12_1).f1.f1) (rd t454 x12_1) t460 _ A8.out).mono ?_
   rintro e w18 ⟨rfl, hb⟩
   have HS6_ := (hb.cell (World.block_lt_of_cell? _ _ (hHeld.2.2.2.2.2.2))).trans (hHeld.2.2.2.2.2.2)
   refine ⟨_, rfl, ?_⟩
   have n0_ := Aside0.mk (Kd.R_below (by (with_reducible repeat (first | apply Kd.R_alloc | apply Kd.R_drewN | apply Kd.R_drew)); exact HO_3.out) hb)
   have n1_ := Aside0.mk (Kd.R_below (by (with_reducible repeat (first | apply Kd.R_alloc | apply Kd.R_drewN | apply Kd.R_drew)); exact HO_4.out) hb)
   have n2_ := Aside0.mk (blk_below (g := gb458) (o := .cells #[.int .i64 ((rd_T45 l0 x12_1).f0), .int .i64 ((rd_T45 l0 x12_1).f1.f0), .int .i64 ((rd_T45 l0 x12_1).f1.f1), .int .i64 ((rd_T45 l0 x12_1).f2), .int .i64 ((rd_T45 l0 x12_1).f3), .int .i64 ((rd_T45 l0 x12_1).f4)] 45 (0, 0)) (by (with_reducible repeat (first | refine blk_drewN ?_ _ | refine blk_drew ?_ | refine blk_alloc ?_ _)); exact BK458.out) hb)
   have n3_ := Aside0.mk (below_step (by repeat (first | (with_reducible first | exact HB.out | apply bA_ | apply bN_ | apply b1_ | refine below_set ?_ GE458.out) | exact HB.out)) hb)
   clear HO_3
   clear HO_4
   clear BK458
   clear HB
   have HO_3 := n0_
   have HO_4 := n1_
   have BK458 := n2_
   have HB := n3_
   clear n0_ n1_ n2_ n3_
   (try clear hb)
   (try clear hb2)
   (try clear hk)
   (try clear hi)
   refine hK.out _ _ ⟨(blk_cell BK458.out 0).trans rfl, (blk_cell BK458.out 1).trans rfl, (blk_cell BK458.out 2).trans rfl, (blk_cell BK458.out 3).trans rfl, (blk_cell BK458.out 4).trans rfl, (blk_cell BK458.out 5).trans rfl, HS6_⟩ (fun hHeld => ?_)
   clear hK K
   refine norm_ (a' := ?_) ?_ ?_
   rotate_left
   · show Act.put _ (some 23) _ = _
     simp only [Act.put, List.setIfInBounds_toArray, List.set_cons_zero, List.set_cons_succ, i64_w, i32_w]
     rfl
   refine pure_ (i := 9) (N := some 26) (v := ?_) (a' := ?_) #[true, true, true, true, true, true, true, true, true, true, false] rfl rfl (any_of HT_.out (by kernel_rfl)) (fun _ _ _ h => h) (Or.inl ⟨by rfl, ?_⟩) ?_ ?_
   rotate_left
   · intro w'
     go_simp
     with_reducible rfl
   rotate_left
   · simp only [Act.put, List.setIfInBounds_toArray, List.set_cons_zero, List.set_cons_succ, i64_w, i32_w]
     rfl
   refine pure_ (i := 10) (N := some 7) (v := ?_) (a' := ?_) #[true, true, true, true, true, true, true, true, true, true, true] rfl rfl (any_of HT_.out (by kernel_rfl)) (fun _ _ _ h => h) (Or.inl ⟨by rfl, ?_⟩) ?_ ?_
   rotate_left
   · intro w'
     go_simp
     with_reducible rfl
   rotate_left
   · simp only [Act.put, List.setIfInBounds_toArray, List.set_cons_zero, List.set_cons_succ, i64_w, i32_w]
     rfl
   refine done_ (done_of HT_.out (by kernel_rfl)) ?_
   obtain ⟨hcz19_0, hcz19_1, hcz19_2, hcz19_3, hcz19_4, hcz19_5, hfz19_0, hfz19_1, hfz19_2, hfz19_3, hfz19_4, hfz19_5⟩ := blk6_ BK458.out
   obtain ⟨Ao20, co20, eo20⟩ := Kd.R_slice HO_4.out
   subst eo20
   have p461 : 0 ≤ (((rd_T45 l0 x12_1).f0) : Int) := of_decide_eq_true (by first|with_reducible assumption|assumption)
   have q461 : ((rd_T45 l0 x12_1).f0) < (x4_1.length : Int) := of_decide_eq_true (by first|with_reducible assumption|assumption)
   obtain ⟨ad461, e461, hx461_0⟩ := Kd.at_int (Kd.R_reads' HO_4.out).2.2 ((rd_T45 l0 x12_1).f0) p461 q461
   cases e461
   replace p461 := eq_true p461
   replace q461 := eq_true q461
   try go_wp2_with (first | ((with_reducible refine gate_builtin (b := .append) (xs := #[.tmp 37, .tmp 39]) rfl ?_); at_builtin; refine Kd.R_append (Kd.int .i64) (w0 := w) w.heap.size rfl (.tmp 37) (.tmp 39) 31 3 (.int .i64 0) 8 rfl Try.underlying31 info3 rfl (by decide) (by omega) (.slice (some ad461) x4_1.length co20) x4_1 (wrap64 ((wrap64 (t460 + ((rd_T45 l0 x12_1).f2))) + (rd x4_1 ((rd_T45 l0 x12_1).f0)))) [.int .i64 (wrap64 ((wrap64 (t460 + ((rd_T45 l0 x12_1).f2))) + (rd x4_1 ((rd_T45 l0 x12_1).f0))))] (fun k_ => some k_ ≠ (.slice (some ad459) t454.length co17 : Value).ownBlock) (fun _ => False) rfl rfl ?aP (fun _ hk => hk.elim) ?aF ?aO ?aB ?aS ?aL ?_; (case aP => exact rfl); (case aB => exact (by repeat (first | (with_reducible first | exact HB.out | apply bA_ | apply bN_ | apply b1_ | refine below_set ?_ GE458.out) | exact HB.out))); (case aF => exact (fun k_ hk => Kd.fresh' (Kd.R_lt (by (with_reducible repeat (first | apply Kd.R_alloc | apply Kd.R_drewN | apply Kd.R_drew)); exact HO_3.out)) k_ hk)); (case aO => exact (by (with_reducible repeat (first | apply Kd.R_alloc | apply Kd.R_drewN | apply Kd.R_drew)); exact HO_4.out)); (case aS => exact (below_size (by repeat (first | (with_reducible first | exact HB.out | apply bA_ | apply bN_ | apply b1_ | refine below_set ?_ GE458.out) | exact HB.out)))); (case aL => have := LMc12.out; omega); intro v463 w21 ho hb hg hat; rw [← Ny462.out] at ho; have n0_ := Aside0.mk (Kd.R_after (ok := (fun _ => True)) (by (with_reducible repeat (first | apply Kd.R_alloc | apply Kd.R_drewN | apply Kd.R_drew)); exact Kd.R_mono HO_3.out (fun _ hk => ⟨trivial, hk⟩)) hg hat); have n1_ := Aside0.mk (blk_grown (g := gb458) (o := .cells #[.int .i64 ((rd_T45 l0 x12_1).f0), .int .i64 ((rd_T45 l0 x12_1).f1.f0), .int .i64 ((rd_T45 l0 x12_1).f1.f1), .int .i64 ((rd_T45 l0 x12_1).f2), .int .i64 ((rd_T45 l0 x12_1).f3), .int .i64 ((rd_T45 l0 x12_1).f4)] 45 (0, 0)) (by (with_reducible repeat (first | refine blk_drewN ?_ _ | refine blk_drew ?_ | refine blk_alloc ?_ _)); exact BK458.out) hg (Kd.R_ne HO_4.out BK458.out (by decide))); have n2_ := Aside0.mk (hb); have n3_ := Aside0.mk (ho); clear HO_3; clear BK458; clear HB; clear HO_4; have HO_3 := n0_; have BK458 := n1_; have HB := n2_; have HO464 := n3_; clear n0_ n1_ n2_ n3_; clear ho hb hg hat))
   go_roundg k1
   case measure => have := HK1.out; omega
   case rel => exact ⟨(y462), (wrap64 (x12_1 + 1)), (by first | rfl | (simp; done) | (simp [*]; done)), H', ⟨by have := HK1.out; omega⟩, ⟨by (with_reducible repeat (first | apply Kd.R_alloc | apply Kd.R_drewN | apply Kd.R_drew)); exact Kd.R_mono HO_3.out (fun _ hk => hk.2)⟩, ⟨by (with_reducible repeat (first | apply Kd.R_alloc | apply Kd.R_drewN | apply Kd.R_drew)); exact HO464.out⟩, ⟨by repeat (first | (with_reducible first | exact HB.out | apply bA_ | apply bN_ | apply b1_ | refine below_set ?_ GE458.out) | exact HB.out)⟩⟩

/-! ### spec_liHardest: function 60 -/
def spec_liHardest.l0 : Nat → List (S45) → List Int → Int → List (S45) → Int → Int → Option (Int)
  | 0, _, _, _, _, _, _ => none
  | k + 1, x0, x3, x4, x9, x10, x11 => if x11 < x10 then (if 0 ≤ x11 then (if x11 < (x9.length : Int) then (if ((rd_T45 x9 x11).f3) > 0 then (if x4 < 0 then (spec_liHardest.l0 k x0 x3 x11 x9 x10 (wrap64 (x11 + 1))) else ((spec_liNeeds.f k x0 x3 x11).bind fun t473 => ((spec_liNeeds.f k x0 x3 x4).bind fun t474 => (if t473 > t474 then (spec_liHardest.l0 k x0 x3 x11 x9 x10 (wrap64 (x11 + 1))) else (spec_liHardest.l0 k x0 x3 x4 x9 x10 (wrap64 (x11 + 1))))))) else (spec_liHardest.l0 k x0 x3 x4 x9 x10 (wrap64 (x11 + 1)))) else (none)) else (none)) else (some x4)
def spec_liHardest.f (k : Nat) (l0 : List (S45)) : Option (Int) := (spec_liLosses.f k l0).bind fun t468 => (spec_liHardest.l0 k l0 t468 (-1) l0 (l0.length : Int) 0)
theorem spec_liHardest.mono_l : ∀ k, (∀ y0 y1 y2 y3 y4 y5, LeO (spec_liHardest.l0 k y0 y1 y2 y3 y4 y5) (spec_liHardest.l0 (k + 1) y0 y1 y2 y3 y4 y5))
 | 0 => fun _ _ _ _ _ _ r h => by simp [spec_liHardest.l0] at h
 | k + 1 => by
  have ih0 := spec_liHardest.mono_l k
  · intro y0 y1 y2 y3 y4 y5
    unfold spec_liHardest.l0
    repeat' first
    | (with_reducible exact ih0 _ _ _ _ _ _)
    | (with_reducible exact spec_liLosses.mono _ _)
    | (with_reducible exact spec_liNeeds.mono _ _ _ _)
    | (with_reducible exact LeO.refl _)
    | (with_reducible exact LeO.none _)
    | (with_reducible refine LeO.ite ?_ ?_)
    | (with_reducible refine LeO.bind ?_ (fun _ => ?_))
    | exact ih0 _ _ _ _ _ _
    | exact spec_liLosses.mono _ _
    | exact spec_liNeeds.mono _ _ _ _
    | exact LeO.none _
    | refine LeO.ite ?_ ?_
    | refine LeO.bind ?_ (fun _ => ?_)
theorem spec_liHardest.mono : ∀ a0 k, LeO (spec_liHardest.f k a0) (spec_liHardest.f (k + 1) a0) := by
 intro a0 k
 have ih0 := spec_liHardest.mono_l k
 unfold spec_liHardest.f
 repeat' first
  | (with_reducible exact ih0 _ _ _ _ _ _)
  | (with_reducible exact spec_liLosses.mono _ _)
  | (with_reducible exact spec_liNeeds.mono _ _ _ _)
  | (with_reducible exact LeO.refl _)
  | (with_reducible exact LeO.none _)
  | (with_reducible refine LeO.ite ?_ ?_)
  | (with_reducible refine LeO.bind ?_ (fun _ => ?_))
  | exact ih0 _ _ _ _ _ _
  | exact spec_liLosses.mono _ _
  | exact spec_liNeeds.mono _ _ _ _
  | exact LeO.none _
  | refine LeO.ite ?_ ?_
  | refine LeO.bind ?_ (fun _ => ?_)
set_option maxHeartbeats 8000000 in
set_option maxRecDepth 100000 in
theorem spec_liHardest.calls (k : Nat) (A0 : Option Addr) (c0 : Nat) (l0 : List (S45)) (r : Int) (w : World) (hr0 : Kd.C k45 w A0 l0.length l0) (hc0 : l0.length ≤ c0) (h : spec_liHardest.f k l0 = some r) :
  Calls Try.prog 60 #[.slice A0 l0.length c0] w fun e w' => e = .returned (.int .i64 r) ∧ Below w.heap.size w w' := by
 have hu45 := Try.underlying45
 have HR0 := Aside0.mk hr0
 have HC0 := Aside0.mk hc0
 clear hr0 hc0
 have HB := Aside0.mk (Below.refl w.heap.size w)
 have H : ((spec_liLosses.f k l0).bind fun t468 => (spec_liHardest.l0 k l0 t468 (-1) l0 (l0.length : Int) 0)) = some r := h
 clear h
 replace H := Option.bind_eq_some_iff.mp H
 obtain ⟨t468, A20, H⟩ := H
 replace H : (spec_liHardest.l0 k l0 t468 (-1) l0 (l0.length : Int) 0) = some r := H
 have A2 := Aside0.mk A20
 clear A20
 have H' := Aside0.mk H
 clear H
 go_enter Try.func60, Try.ntmps60
 go_wp2_with (first | ((with_reducible refine gate_callee (f := 64) rfl ?_); refine goesL_ (some 8) rfl rfl Try.func64 (by kernel_rfl) rfl #[.slice A0 l0.length c0] rfl (by (try simp only [List.map_toArray, List.map_cons, List.map_nil]); first | done | rfl) ?_; (with_reducible refine (spec_liLosses.calls k _ _ l0 t468 _ ?side1 ?side2 A2.out).mono ?_); (case side1 => repeat (first | exact HR0.out | (with_reducible refine Kd.C_alloc ?_ _) | (with_reducible refine Kd.C_drewN ?_ _) | (with_reducible refine Kd.C_drew ?_))); (case side2 => exact HC0.out); rintro e w3 ⟨v469, rfl, ho0, hb⟩; refine ⟨_, rfl, ?_⟩; have n0_ := Aside0.mk (Kd.R_lower ho0 (below_size (by repeat (first | (with_reducible first | exact HB.out | apply bA_ | apply bN_ | apply b1_) | exact HB.out)))); have n1_ := Aside0.mk (below_step (by repeat (first | (with_reducible first | exact HB.out | apply bA_ | apply bN_ | apply b1_) | exact HB.out)) hb); clear HB; have HO470 := n0_; have HB := n1_; clear n0_ n1_; (try clear hb); (try clear hb2); (try clear hk); (try clear hi); (try clear ho0)))
 go_loopg [4, 11] k (fun kq v4 v11 w' => ∃ (x4_1 : Int) (x11_1 : Int), v4 = .int .i64 x4_1 ∧ v11 = .int .i64 x11_1 ∧ Aside0 (spec_liHardest.l0 kq l0 t468 x4_1 l0 (l0.length : Int) x11_1 = some r) ∧ Aside0 (kq ≤ k) ∧ Aside0 (Kd.R (Kd.int .i64) 3 w' w.heap.size (fun _ => True) v469 t468) ∧ Aside0 (Below w.heap.size w w'))
 case atStart => exact ⟨((-1)), (0), (by first | rfl | (simp; done) | (simp [*]; done)), (by first | rfl | (simp; done) | (simp [*]; done)), H', ⟨Nat.le_refl _⟩, ⟨by (with_reducible repeat (first | apply Kd.R_alloc | apply Kd.R_drewN | apply Kd.R_drew)); exact HO470.out⟩, ⟨by repeat (first | (with_reducible first | exact HB.out | apply bA_ | apply bN_ | apply b1_) | exact HB.out)⟩⟩
 case round =>
  clear H'
  try clear p2
  obtain ⟨x4_1, x11_1, rfl, rfl, HA, HK1, HO_3, HB⟩ := hrel
  cases gk with
  | zero => exact absurd HA.out (by simp [spec_liHardest.l0])
  | succ k1 =>
   have H := HA.out
   clear HA
   simp only [spec_liHardest.l0] at H
   by_cases c4 : x11_1 < (l0.length : Int)
   case neg =>
    rw [if_neg c4] at H
    have c4b0 : decide (x11_1 < (l0.length : Int)) = false := decide_eq_false c4
    clear c4
    obtain rfl := Option.some.inj H
    go_wp2
    go_ret
    exact ⟨by first | rfl | (simp [errW_none, errW_some] <;> rfl) | (simp [*, errW_none, errW_some] <;> rfl), by repeat (first | (with_reducible first | exact HB.out | apply bA_ | apply bN_ | apply b1_) | exact HB.out)⟩
   rw [if_pos c4] at H
   have c4b0 : decide (x11_1 < (l0.length : Int)) = true := decide_eq_true c4
   clear c4
   by_cases c5 : 0 ≤ x11_1
   case neg =>
    rw [if_neg c5] at H
    exact absurd H (by simp)
   rw [if_pos c5] at H
   have c5b0 : decide (0 ≤ x11_1) = true := decide_eq_true c5
   clear c5
   by_cases c6 : x11_1 < (l0.length : Int)
   case neg =>
    rw [if_neg c6] at H
    exact absurd H (by simp)
   rw [if_pos c6] at H
   have c6b0 : decide (x11_1 < (l0.length : Int)) = true := decide_eq_true c6
   clear c6
   by_cases c7 : ((rd_T45 l0 x11_1).f3) > 0
   case neg =>
    rw [if_neg c7] at H
    have c7b0 : decide (0 < ((rd_T45 l0 x11_1).f3)) = false := decide_eq_false c7
    clear c7
    have H' := Aside0.mk H
    clear H
    have p471 : 0 ≤ (x11_1 : Int) := of_decide_eq_true (by first|with_reducible assumption|assumption)
    have q471 : x11_1 < (l0.length : Int) := of_decide_eq_true (by first|with_reducible assumption|assumption)
    obtain ⟨ad471, e471, hx471_0, hx471_1, hx471_2, hx471_3, hx471_4, hx471_5⟩ := at_T45 HR0.out x11_1 p471 q471
    cases e471
    replace hx471_0 := cl_ HB.out hx471_0
    replace hx471_1 := cl_ HB.out hx471_1
    replace hx471_2 := cl_ HB.out hx471_2
    replace hx471_3 := cl_ HB.out hx471_3
    replace hx471_4 := cl_ HB.out hx471_4
    replace hx471_5 := cl_ HB.out hx471_5
    replace p471 := eq_true p471
    replace q471 := eq_true q471
    go_wp2_with (first | ((with_reducible refine gate_dst (N := 6) rfl ?_); refine box_event ?hg (N := 6) ?hd (cs := #[.int .i64 0, .int .i64 0, .int .i64 0, .int .i64 0, .int .i64 0, .int .i64 0]) (t := 45) ?hr ?_; (case hd => rfl); (case hg => rfl); (case hr => first | (go_simp; done) | (go_simp; rfl)); intro gb472 hg w20 hbox hb; have n0_ := Aside0.mk (Kd.R_below (by (with_reducible repeat (first | apply Kd.R_alloc | apply Kd.R_drewN | apply Kd.R_drew)); exact HO_3.out) hb); have n1_ := Aside0.mk (below_step (by repeat (first | (with_reducible first | exact HB.out | apply bA_ | apply bN_ | apply b1_) | exact HB.out)) hb); have n2_ := Aside0.mk (hbox); have n3_ := Aside0.mk ((by rw [hg]; exact (below_size (by repeat (first | (with_reducible first | exact HB.out | apply bA_ | apply bN_ | apply b1_) | exact HB.out))) : w.heap.size ≤ gb472)); have n4_ := n3_; clear HO_3; clear HB; have HO_3 := n0_; have HB := n1_; have BK472 := n2_; have GW472 := n3_; have GE472 := n4_; clear n0_ n1_ n2_ n3_ n4_; clear hb hbox hg; obtain ⟨hcz21_0, hcz21_1, hcz21_2, hcz21_3, hcz21_4, hcz21_5, hfz21_0, hfz21_1, hfz21_2, hfz21_3, hfz21_4, hfz21_5⟩ := blk6_ BK472.out))
    go_roundg k1
    case measure => have := HK1.out; omega
    case rel => exact ⟨(x4_1), (wrap64 (x11_1 + 1)), (by first | rfl | (simp; done) | (simp [*]; done)), (by first | rfl | (simp; done) | (simp [*]; done)), H', ⟨by have := HK1.out; omega⟩, ⟨by (with_reducible repeat (first | apply Kd.R_alloc | apply Kd.R_drewN | apply Kd.R_drew)); exact Kd.R_mono (Kd.R_far (p := ⟨gb472, 5, none⟩) (Kd.R_far (p := ⟨gb472, 4, none⟩) (Kd.R_far (p := ⟨gb472, 3, none⟩) (Kd.R_far (p := ⟨gb472, 2, none⟩) (Kd.R_far (p := ⟨gb472, 1, none⟩) (Kd.R_far (p := ⟨gb472, 0, none⟩) (Kd.R_types HO_3.out BK472.out (by decide)) (fun _ hk => hk.2) (.int .i64 ((rd_T45 l0 x11_1).f0))) (fun _ hk => hk.2) (.int .i64 ((rd_T45 l0 x11_1).f1.f0))) (fun _ hk => hk.2) (.int .i64 ((rd_T45 l0 x11_1).f1.f1))) (fun _ hk => hk.2) (.int .i64 ((rd_T45 l0 x11_1).f2))) (fun _ hk => hk.2) (.int .i64 ((rd_T45 l0 x11_1).f3))) (fun _ hk => hk.2) (.int .i64 ((rd_T45 l0 x11_1).f4))) (fun _ hk => trivial)⟩, ⟨by repeat (first | (with_reducible first | exact HB.out | apply bA_ | apply bN_ | apply b1_ | refine below_set ?_ GE472.out) | exact HB.out)⟩⟩
   rw [if_pos c7] at H
   have c7b0 : decide (0 < ((rd_T45 l0 x11_1).f3)) = true := decide_eq_true c7
   clear c7
   by_cases c8 : x4_1 < 0
   case neg =>
    rw [if_neg c8] at H
    have c8b0 : decide (x4_1 < 0) = false := decide_eq_false c8
    clear c8
    replace H := Option.bind_eq_some_iff.mp H
    obtain ⟨t473, A110, H⟩ := H
    replace H : ((spec_liNeeds.f k1 l0 t468 x4_1).bind fun t474 => (if t473 > t474 then (spec_liHardest.l0 k1 l0 t468 x11_1 l0 (l0.length : Int) (wrap64 (x11_1 + 1))) else (spec_liHardest.l0 k1 l0 t468 x4_1 l0 (l0.length : Int) (wrap64 (x11_1 + 1))))) = some r := H
    have A11 := Aside0.mk A110
    clear A110
    replace H := Option.bind_eq_some_iff.mp H
    obtain ⟨t474, A120, H⟩ := H
    replace H : (if t473 > t474 then (spec_liHardest.l0 k1 l0 t468 x11_1 l0 (l0.length : Int) (wrap64 (x11_1 + 1))) else (spec_liHardest.l0 k1 l0 t468 x4_1 l0 (l0.length : Int) (wrap64 (x11_1 + 1)))) = some r := H
    have A12 := Aside0.mk A120
    clear A120
    by_cases c13 : t473 > t474
    case neg =>
     rw [if_neg c13] at H
     have c13b0 : decide (t474 < t473) = false := decide_eq_false c13
     clear c13
     have H' := Aside0.mk H
     clear H
     have p471 : 0 ≤ (x11_1 : Int) := of_decide_eq_true (by first|with_reducible assumption|assumption)
     have q471 : x11_1 < (l0.length : Int) := of_decide_eq_true (by first|with_reducible assumption|assumption)
     obtain ⟨ad471, e471, hx471_0, hx471_1, hx471_2, hx471_3, hx471_4, hx471_5⟩ := at_T45 HR0.out x11_1 p471 q471
     cases e471
     replace hx471_0 := cl_ HB.out hx471_0
     replace hx471_1 := cl_ HB.out hx471_1
     replace hx471_2 := cl_ HB.out hx471_2
     replace hx471_3 := cl_ HB.out hx471_3
     replace hx471_4 := cl_ HB.out hx471_4
     replace hx471_5 := cl_ HB.out hx471_5
     replace p471 := eq_true p471
     replace q471 := eq_true q471
     go_wp2_with (first | ((with_reducible refine gate_dst (N := 6) rfl ?_); refine box_event ?hg (N := 6) ?hd (cs := #[.int .i64 0, .int .i64 0, .int .i64 0, .int .i64 0, .int .i64 0, .int .i64 0]) (t := 45) ?hr ?_; (case hd => rfl); (case hg => rfl); (case hr => first | (go_simp; done) | (go_simp; rfl)); intro gb472 hg w17 hbox hb; have n0_ := Aside0.mk (Kd.R_below (by (with_reducible repeat (first | apply Kd.R_alloc | apply Kd.R_drewN | apply Kd.R_drew)); exact HO_3.out) hb); have n1_ := Aside0.mk (below_step (by repeat (first | (with_reducible first | exact HB.out | apply bA_ | apply bN_ | apply b1_) | exact HB.out)) hb); have n2_ := Aside0.mk (hbox); have n3_ := Aside0.mk ((by rw [hg]; exact (below_size (by repeat (first | (with_reducible first | exact HB.out | apply bA_ | apply bN_ | apply b1_) | exact HB.out))) : w.heap.size ≤ gb472)); have n4_ := n3_; clear HO_3; clear HB; have HO_3 := n0_; have HB := n1_; have BK472 := n2_; have GW472 := n3_; have GE472 := n4_; clear n0_ n1_ n2_ n3_ n4_; clear hb hbox hg; obtain ⟨hcz18_0, hcz18_1, hcz18_2, hcz18_3, hcz18_4, hcz18_5, hfz18_0, hfz18_1, hfz18_2, hfz18_3, hfz18_4, hfz18_5⟩ := blk6_ BK472.out; obtain ⟨Ao19, co19, eo19⟩ := Kd.R_slice HO_3.out; subst eo19) | (go_at_call 63; (with_reducible refine (spec_liNeeds.calls k1 _ _ l0 _ _ t468 x11_1 t473 _ ?side1 ?side2 ?side3 ?side4 A11.out).mono ?_); (case side1 => exact Kd.C_below HR0.out (by repeat (first | (with_reducible first | exact HB.out | apply bA_ | apply bN_ | apply b1_ | refine below_set ?_ GE472.out) | exact HB.out))); (case side2 => exact HC0.out); (case side3 => refine (Kd.R_reads' (e := 3) (base := w.heap.size) (ok := fun k_ => True) (n := t468.length) (c := co19) ?_).2.2; exact (by (with_reducible repeat (first | apply Kd.R_alloc | apply Kd.R_drewN | apply Kd.R_drew)); exact (Kd.R_mono (Kd.R_far (p := ⟨gb472, 5, none⟩) (Kd.R_far (p := ⟨gb472, 4, none⟩) (Kd.R_far (p := ⟨gb472, 3, none⟩) (Kd.R_far (p := ⟨gb472, 2, none⟩) (Kd.R_far (p := ⟨gb472, 1, none⟩) (Kd.R_far (p := ⟨gb472, 0, none⟩) (Kd.R_types HO_3.out BK472.out (by decide)) (fun _ hk => hk.2) (.int .i64 ((rd_T45 l0 x11_1).f0))) (fun _ hk => hk.2) (.int .i64 ((rd_T45 l0 x11_1).f1.f0))) (fun _ hk => hk.2) (.int .i64 ((rd_T45 l0 x11_1).f1.f1))) (fun _ hk => hk.2) (.int .i64 ((rd_T45 l0 x11_1).f2))) (fun _ hk => hk.2) (.int .i64 ((rd_T45 l0 x11_1).f3))) (fun _ hk => hk.2) (.int .i64 ((rd_T45 l0 x11_1).f4))) (fun _ h_ => h_.1)))); (case side4 => exact (Kd.R_reads' HO_3.out).2.1); rintro e w' ⟨rfl, ⟨nd, rfl⟩⟩) | (go_at_call 63; (with_reducible refine (spec_liNeeds.calls k1 _ _ l0 _ _ t468 x4_1 t474 _ ?side1 ?side2 ?side3 ?side4 A12.out).mono ?_); (case side1 => exact Kd.C_below HR0.out (by repeat (first | (with_reducible first | exact HB.out | apply bA_ | apply bN_ | apply b1_ | refine below_set ?_ GE472.out) | exact HB.out))); (case side2 => exact HC0.out); (case side3 => refine (Kd.R_reads' (e := 3) (base := w.heap.size) (ok := fun k_ => True) (n := t468.length) (c := co19) ?_).2.2; exact (by (with_reducible repeat (first | apply Kd.R_alloc | apply Kd.R_drewN | apply Kd.R_drew)); exact (Kd.R_mono (Kd.R_far (p := ⟨gb472, 5, none⟩) (Kd.R_far (p := ⟨gb472, 4, none⟩) (Kd.R_far (p := ⟨gb472, 3, none⟩) (Kd.R_far (p := ⟨gb472, 2, none⟩) (Kd.R_far (p := ⟨gb472, 1, none⟩) (Kd.R_far (p := ⟨gb472, 0, none⟩) (Kd.R_types HO_3.out BK472.out (by decide)) (fun _ hk => hk.2) (.int .i64 ((rd_T45 l0 x11_1).f0))) (fun _ hk => hk.2) (.int .i64 ((rd_T45 l0 x11_1).f1.f0))) (fun _ hk => hk.2) (.int .i64 ((rd_T45 l0 x11_1).f1.f1))) (fun _ hk => hk.2) (.int .i64 ((rd_T45 l0 x11_1).f2))) (fun _ hk => hk.2) (.int .i64 ((rd_T45 l0 x11_1).f3))) (fun _ hk => hk.2) (.int .i64 ((rd_T45 l0 x11_1).f4))) (fun _ h_ => h_.1)))); (case side4 => exact (Kd.R_reads' HO_3.out).2.1); rintro e w' ⟨rfl, ⟨nd, rfl⟩⟩))
     go_roundg k1
     case measure => have := HK1.out; omega
     case rel => exact ⟨(x4_1), (wrap64 (x11_1 + 1)), (by first | rfl | (simp; done) | (simp [*]; done)), (by first | rfl | (simp; done) | (simp [*]; done)), H', ⟨by have := HK1.out; omega⟩, ⟨by (with_reducible repeat (first | apply Kd.R_alloc | apply Kd.R_drewN | apply Kd.R_drew)); exact Kd.R_mono (Kd.R_far (p := ⟨gb472, 5, none⟩) (Kd.R_far (p := ⟨gb472, 4, none⟩) (Kd.R_far (p := ⟨gb472, 3, none⟩) (Kd.R_far (p := ⟨gb472, 2, none⟩) (Kd.R_far (p := ⟨gb472, 1, none⟩) (Kd.R_far (p := ⟨gb472, 0, none⟩) (Kd.R_types HO_3.out BK472.out (by decide)) (fun _ hk => hk.2) (.int .i64 ((rd_T45 l0 x11_1).f0))) (fun _ hk => hk.2) (.int .i64 ((rd_T45 l0 x11_1).f1.f0))) (fun _ hk => hk.2) (.int .i64 ((rd_T45 l0 x11_1).f1.f1))) (fun _ hk => hk.2) (.int .i64 ((rd_T45 l0 x11_1).f2))) (fun _ hk => hk.2) (.int .i64 ((rd_T45 l0 x11_1).f3))) (fun _ hk => hk.2) (.int .i64 ((rd_T45 l0 x11_1).f4))) (fun _ hk => trivial)⟩, ⟨by repeat (first | (with_reducible first | exact HB.out | apply bA_ | apply bN_ | apply b1_ | refine below_set ?_ GE472.out) | exact HB.out)⟩⟩
    rw [if_pos c13] at H
    have c13b0 : decide (t474 < t473) = true := decide_eq_true c13
    clear c13
    have H' := Aside0.mk H
    clear H
    have p471 : 0 ≤ (x11_1 : Int) := of_decide_eq_true (by first|with_reducible assumption|assumption)
    have q471 : x11_1 < (l0.length : Int) := of_decide_eq_true (by first|with_reducible assumption|assumption)
    obtain ⟨ad471, e471, hx471_0, hx471_1, hx471_2, hx471_3, hx471_4, hx471_5⟩ := at_T45 HR0.out x11_1 p471 q471
    cases e471
    replace hx471_0 := cl_ HB.out hx471_0
    replace hx471_1 := cl_ HB.out hx471_1
    replace hx471_2 := cl_ HB.out hx471_2
    replace hx471_3 := cl_ HB.out hx471_3
    replace hx471_4 := cl_ HB.out hx471_4
    replace hx471_5 := cl_ HB.out hx471_5
    replace p471 := eq_true p471
    replace q471 := eq_true q471
    go_wp2_with (first | ((with_reducible refine gate_dst (N := 6) rfl ?_); refine box_event ?hg (N := 6) ?hd (cs := #[.int .i64 0, .int .i64 0, .int .i64 0, .int .i64 0, .int .i64 0, .int .i64 0]) (t := 45) ?hr ?_; (case hd => rfl); (case hg => rfl); (case hr => first | (go_simp; done) | (go_simp; rfl)); intro gb472 hg w14 hbox hb; have n0_ := Aside0.mk (Kd.R_below (by (with_reducible repeat (first | apply Kd.R_alloc | apply Kd.R_drewN | apply Kd.R_drew)); exact HO_3.out) hb); have n1_ := Aside0.mk (below_step (by repeat (first | (with_reducible first | exact HB.out | apply bA_ | apply bN_ | apply b1_) | exact HB.out)) hb); have n2_ := Aside0.mk (hbox); have n3_ := Aside0.mk ((by rw [hg]; exact (below_size (by repeat (first | (with_reducible first | exact HB.out | apply bA_ | apply bN_ | apply b1_) | exact HB.out))) : w.heap.size ≤ gb472)); have n4_ := n3_; clear HO_3; clear HB; have HO_3 := n0_; have HB := n1_; have BK472 := n2_; have GW472 := n3_; have GE472 := n4_; clear n0_ n1_ n2_ n3_ n4_; clear hb hbox hg; obtain ⟨hcz15_0, hcz15_1, hcz15_2, hcz15_3, hcz15_4, hcz15_5, hfz15_0, hfz15_1, hfz15_2, hfz15_3, hfz15_4, hfz15_5⟩ := blk6_ BK472.out; obtain ⟨Ao16, co16, eo16⟩ := Kd.R_slice HO_3.out; subst eo16) | (go_at_call 63; (with_reducible refine (spec_liNeeds.calls k1 _ _ l0 _ _ t468 x11_1 t473 _ ?side1 ?side2 ?side3 ?side4 A11.out).mono ?_); (case side1 => exact Kd.C_below HR0.out (by repeat (first | (with_reducible first | exact HB.out | apply bA_ | apply bN_ | apply b1_ | refine below_set ?_ GE472.out) | exact HB.out))); (case side2 => exact HC0.out); (case side3 => refine (Kd.R_reads' (e := 3) (base := w.heap.size) (ok := fun k_ => True) (n := t468.length) (c := co16) ?_).2.2; exact (by (with_reducible repeat (first | apply Kd.R_alloc | apply Kd.R_drewN | apply Kd.R_drew)); exact (Kd.R_mono (Kd.R_far (p := ⟨gb472, 5, none⟩) (Kd.R_far (p := ⟨gb472, 4, none⟩) (Kd.R_far (p := ⟨gb472, 3, none⟩) (Kd.R_far (p := ⟨gb472, 2, none⟩) (Kd.R_far (p := ⟨gb472, 1, none⟩) (Kd.R_far (p := ⟨gb472, 0, none⟩) (Kd.R_types HO_3.out BK472.out (by decide)) (fun _ hk => hk.2) (.int .i64 ((rd_T45 l0 x11_1).f0))) (fun _ hk => hk.2) (.int .i64 ((rd_T45 l0 x11_1).f1.f0))) (fun _ hk => hk.2) (.int .i64 ((rd_T45 l0 x11_1).f1.f1))) (fun _ hk => hk.2) (.int .i64 ((rd_T45 l0 x11_1).f2))) (fun _ hk => hk.2) (.int .i64 ((rd_T45 l0 x11_1).f3))) (fun _ hk => hk.2) (.int .i64 ((rd_T45 l0 x11_1).f4))) (fun _ h_ => h_.1)))); (case side4 => exact (Kd.R_reads' HO_3.out).2.1); rintro e w' ⟨rfl, ⟨nd, rfl⟩⟩) | (go_at_call 63; (with_reducible refine (spec_liNeeds.calls k1 _ _ l0 _ _ t468 x4_1 t474 _ ?side1 ?side2 ?side3 ?side4 A12.out).mono ?_); (case side1 => exact Kd.C_below HR0.out (by repeat (first | (with_reducible first | exact HB.out | apply bA_ | apply bN_ | apply b1_ | refine below_set ?_ GE472.out) | exact HB.out))); (case side2 => exact HC0.out); (case side3 => refine (Kd.R_reads' (e := 3) (base := w.heap.size) (ok := fun k_ => True) (n := t468.length) (c := co16) ?_).2.2; exact (by (with_reducible repeat (first | apply Kd.R_alloc | apply Kd.R_drewN | apply Kd.R_drew)); exact (Kd.R_mono (Kd.R_far (p := ⟨gb472, 5, none⟩) (Kd.R_far (p := ⟨gb472, 4, none⟩) (Kd.R_far (p := ⟨gb472, 3, none⟩) (Kd.R_far (p := ⟨gb472, 2, none⟩) (Kd.R_far (p := ⟨gb472, 1, none⟩) (Kd.R_far (p := ⟨gb472, 0, none⟩) (Kd.R_types HO_3.out BK472.out (by decide)) (fun _ hk => hk.2) (.int .i64 ((rd_T45 l0 x11_1).f0))) (fun _ hk => hk.2) (.int .i64 ((rd_T45 l0 x11_1).f1.f0))) (fun _ hk => hk.2) (.int .i64 ((rd_T45 l0 x11_1).f1.f1))) (fun _ hk => hk.2) (.int .i64 ((rd_T45 l0 x11_1).f2))) (fun _ hk => hk.2) (.int .i64 ((rd_T45 l0 x11_1).f3))) (fun _ hk => hk.2) (.int .i64 ((rd_T45 l0 x11_1).f4))) (fun _ h_ => h_.1)))); (case side4 => exact (Kd.R_reads' HO_3.out).2.1); rintro e w' ⟨rfl, ⟨nd, rfl⟩⟩))
    go_roundg k1
    case measure => have := HK1.out; omega
    case rel => exact ⟨(x11_1), (wrap64 (x11_1 + 1)), (by first | rfl | (simp; done) | (simp [*]; done)), (by first | rfl | (simp; done) | (simp [*]; done)), H', ⟨by have := HK1.out; omega⟩, ⟨by (with_reducible repeat (first | apply Kd.R_alloc | apply Kd.R_drewN | apply Kd.R_drew)); exact Kd.R_mono (Kd.R_far (p := ⟨gb472, 5, none⟩) (Kd.R_far (p := ⟨gb472, 4, none⟩) (Kd.R_far (p := ⟨gb472, 3, none⟩) (Kd.R_far (p := ⟨gb472, 2, none⟩) (Kd.R_far (p := ⟨gb472, 1, none⟩) (Kd.R_far (p := ⟨gb472, 0, none⟩) (Kd.R_types HO_3.out BK472.out (by decide)) (fun _ hk => hk.2) (.int .i64 ((rd_T45 l0 x11_1).f0))) (fun _ hk => hk.2) (.int .i64 ((rd_T45 l0 x11_1).f1.f0))) (fun _ hk => hk.2) (.int .i64 ((rd_T45 l0 x11_1).f1.f1))) (fun _ hk => hk.2) (.int .i64 ((rd_T45 l0 x11_1).f2))) (fun _ hk => hk.2) (.int .i64 ((rd_T45 l0 x11_1).f3))) (fun _ hk => hk.2) (.int .i64 ((rd_T45 l0 x11_1).f4))) (fun _ hk => trivial)⟩, ⟨by repeat (first | (with_reducible first | exact HB.out | apply bA_ | apply bN_ | apply b1_ | refine below_set ?_ GE472.out) | exact HB.out)⟩⟩
   rw [if_pos c8] at H
   have c8b0 : decide (x4_1 < 0) = true := decide_eq_true c8
   clear c8
   have H' := Aside0.mk H
   clear H
   have p471 : 0 ≤ (x11_1 : Int) := of_decide_eq_true (by first|with_reducible assumption|assumption)
   have q471 : x11_1 < (l0.length : Int) := of_decide_eq_true (by first|with_reducible assumption|assumption)
   obtain ⟨ad471, e471, hx471_0, hx471_1, hx471_2, hx471_3, hx471_4, hx471_5⟩ := at_T45 HR0.out x11_1 p471 q471
   cases e471
   replace hx471_0 := cl_ HB.out hx471_0
   replace hx471_1 := cl_ HB.out hx471_1
   replace hx471_2 := cl_ HB.out hx471_2
   replace hx471_3 := cl_ HB.out hx471_3
   replace hx471_4 := cl_ HB.out hx471_4
   replace hx471_5 := cl_ HB.out hx471_5
   replace p471 := eq_true p471
   replace q471 := eq_true q471
   go_wp2_with (first | ((with_reducible refine gate_dst (N := 6) rfl ?_); refine box_event ?hg (N := 6) ?hd (cs := #[.int .i64 0, .int .i64 0, .int .i64 0, .int .i64 0, .int .i64 0, .int .i64 0]) (t := 45) ?hr ?_; (case hd => rfl); (case hg => rfl); (case hr => first | (go_simp; done) | (go_simp; rfl)); intro gb472 hg w9 hbox hb; have n0_ := Aside0.mk (Kd.R_below (by (with_reducible repeat (first | apply Kd.R_alloc | apply Kd.R_drewN | apply Kd.R_drew)); exact HO_3.out) hb); have n1_ := Aside0.mk (below_step (by repeat (first | (with_reducible first | exact HB.out | apply bA_ | apply bN_ | apply b1_) | exact HB.out)) hb); have n2_ := Aside0.mk (hbox); have n3_ := Aside0.mk ((by rw [hg]; exact (below_size (by repeat (first | (with_reducible first | exact HB.out | apply bA_ | apply bN_ | apply b1_) | exact HB.out))) : w.heap.size ≤ gb472)); have n4_ := n3_; clear HO_3; clear HB; have HO_3 := n0_; have HB := n1_; have BK472 := n2_; have GW472 := n3_; have GE472 := n4_; clear n0_ n1_ n2_ n3_ n4_; clear hb hbox hg; obtain ⟨hcz10_0, hcz10_1, hcz10_2, hcz10_3, hcz10_4, hcz10_5, hfz10_0, hfz10_1, hfz10_2, hfz10_3, hfz10_4, hfz10_5⟩ := blk6_ BK472.out))
   go_roundg k1
   case measure => have := HK1.out; omega
   case rel => exact ⟨(x11_1), (wrap64 (x11_1 + 1)), (by first | rfl | (simp; done) | (simp [*]; done)), (by first | rfl | (simp; done) | (simp [*]; done)), H', ⟨by have := HK1.out; omega⟩, ⟨by (with_reducible repeat (first | apply Kd.R_alloc | apply Kd.R_drewN | apply Kd.R_drew)); exact Kd.R_mono (Kd.R_far (p := ⟨gb472, 5, none⟩) (Kd.R_far (p := ⟨gb472, 4, none⟩) (Kd.R_far (p := ⟨gb472, 3, none⟩) (Kd.R_far (p := ⟨gb472, 2, none⟩) (Kd.R_far (p := ⟨gb472, 1, none⟩) (Kd.R_far (p := ⟨gb472, 0, none⟩) (Kd.R_types HO_3.out BK472.out (by decide)) (fun _ hk => hk.2) (.int .i64 ((rd_T45 l0 x11_1).f0))) (fun _ hk => hk.2) (.int .i64 ((rd_T45 l0 x11_1).f1.f0))) (fun _ hk => hk.2) (.int .i64 ((rd_T45 l0 x11_1).f1.f1))) (fun _ hk => hk.2) (.int .i64 ((rd_T45 l0 x11_1).f2))) (fun _ hk => hk.2) (.int .i64 ((rd_T45 l0 x11_1).f3))) (fun _ hk => hk.2) (.int .i64 ((rd_T45 l0 x11_1).f4))) (fun _ hk => trivial)⟩, ⟨by repeat (first | (with_reducible first | exact HB.out | apply bA_ | apply bN_ | apply b1_ | refine below_set ?_ GE472.out) | exact HB.out)⟩⟩

/-! ### spec_HardestBranch: function 34 -/
def spec_HardestBranch.f (k : Nat) (l0 : List (S45)) : Option (Int × Bool) := (spec_liGood.f k l0).bind fun t475 => (if t475 = true then ((spec_liHardest.f k l0).bind fun t476 => (some (t476, true))) else (some (0, false)))
theorem spec_HardestBranch.mono : ∀ a0 k, LeO (spec_HardestBranch.f k a0) (spec_HardestBranch.f (k + 1) a0) := by
 intro a0 k
 unfold spec_HardestBranch.f
 repeat' first
  | (with_reducible exact spec_liGood.mono _ _)
  | (with_reducible exact spec_liHardest.mono _ _)
  | (with_reducible exact LeO.refl _)
  | (with_reducible exact LeO.none _)
  | (with_reducible refine LeO.ite ?_ ?_)
  | (with_reducible refine LeO.bind ?_ (fun _ => ?_))
  | exact spec_liGood.mono _ _
  | exact spec_liHardest.mono _ _
  | exact LeO.none _
  | refine LeO.ite ?_ ?_
  | refine LeO.bind ?_ (fun _ => ?_)
set_option maxHeartbeats 8000000 in
set_option maxRecDepth 100000 in
theorem spec_HardestBranch.calls (k : Nat) (A0 : Option Addr) (c0 : Nat) (l0 : List (S45)) (r1 : Int) (r2 : Bool) (w : World) (hr0 : Kd.C k45 w A0 l0.length l0) (hc0 : l0.length ≤ c0) (h : spec_HardestBranch.f k l0 = some (r1, r2)) :
  Calls Try.prog 34 #[.slice A0 l0.length c0] w fun e w' => e = .returned (.tuple #[.int .i64 r1, .bool r2]) ∧ Below w.heap.size w w' := by
 have HR0 := Aside0.mk hr0
 have HC0 := Aside0.mk hc0
 clear hr0 hc0
 have HB := Aside0.mk (Below.refl w.heap.size w)
 have H : ((spec_liGood.f k l0).bind fun t475 => (if t475 = true then ((spec_liHardest.f k l0).bind fun t476 => (some (t476, true))) else (some (0, false)))) = some (r1, r2) := h
 clear h
 replace H := Option.bind_eq_some_iff.mp H
 obtain ⟨t475, A20, H⟩ := H
 replace H : (if t475 = true then ((spec_liHardest.f k l0).bind fun t476 => (some (t476, true))) else (some (0, false))) = some (r1, r2) := H
 have A2 := Aside0.mk A20
 clear A20
 by_cases c3 : t475 = true
 case neg =>
  replace c3 := Bool.eq_false_iff.mpr c3
  subst c3
  have H1 : (some (0, false)) = some (r1, r2) := by rw [if_neg (show ¬ (false = true) by decide)] at H; exact H
  clear H
  have H := H1
  clear H1
  simp only [Option.some.injEq, Prod.mk.injEq] at H
  obtain ⟨rfl, rfl⟩ := H
  go_enter Try.func34, Try.ntmps34
  go_wp2_with (first | ((with_reducible refine gate_callee (f := 51) rfl ?_); refine goesL_ (some 5) rfl rfl Try.func51 (by kernel_rfl) rfl #[.slice A0 l0.length c0] rfl (by (try simp only [List.map_toArray, List.map_cons, List.map_nil]); first | done | rfl) ?_; (with_reducible refine (spec_liGood.calls k _ _ l0 false _ ?side1 ?side2 A2.out).mono ?_); (case side1 => repeat (first | exact HR0.out | (with_reducible refine Kd.C_alloc ?_ _) | (with_reducible refine Kd.C_drewN ?_ _) | (with_reducible refine Kd.C_drew ?_))); (case side2 => exact HC0.out); rintro e w7 ⟨rfl, hb⟩; refine ⟨_, rfl, ?_⟩; have n0_ := Aside0.mk (below_step (by repeat (first | (with_reducible first | exact HB.out | apply bA_ | apply bN_ | apply b1_) | exact HB.out)) hb); clear HB; have HB := n0_; clear n0_; (try clear hb); (try clear hb2); (try clear hk); (try clear hi)))
  go_ret2
  exact ⟨by first | rfl | (simp [errW_none, errW_some] <;> rfl) | (simp [*, errW_none, errW_some] <;> rfl), by repeat (first | (with_reducible first | exact HB.out | apply bA_ | apply bN_ | apply b1_) | exact HB.out)⟩
 subst c3
 have H1 : ((spec_liHardest.f k l0).bind fun t476 => (some (t476, true))) = some (r1, r2) := by rw [if_pos rfl] at H; exact H
 clear H
 have H := H1
 clear H1
 replace H := Option.bind_eq_some_iff.mp H
 obtain ⟨t476, A40, H⟩ := H
 replace H : (some (t476, true)) = some (r1, r2) := H
 have A4 := Aside0.mk A40
 clear A40
 simp only [Option.some.injEq, Prod.mk.injEq] at H
 obtain ⟨rfl, rfl⟩ := H
 go_enter Try.func34, Try.ntmps34
 go_wp2_with (first | ((with_reducible refine gate_callee (f := 51) rfl ?_); refine goesL_ (some 5) rfl rfl Try.func51 (by kernel_rfl) rfl #[.slice A0 l0.length c0] rfl (by (try simp only [List.map_toArray, List.map_cons, List.map_nil]); first | done | rfl) ?_; (with_reducible refine (spec_liGood.calls k _ _ l0 true _ ?side1 ?side2 A2.out).mono ?_); (case side1 => repeat (first | exact HR0.out | (with_reducible refine Kd.C_alloc ?_ _) | (with_reducible refine Kd.C_drewN ?_ _) | (with_reducible refine Kd.C_drew ?_))); (case side2 => exact HC0.out); rintro e w5 ⟨rfl, hb⟩; refine ⟨_, rfl, ?_⟩; have n0_ := Aside0.mk (below_step (by repeat (first | (with_reducible first | exact HB.out | apply bA_ | apply bN_ | apply b1_) | exact HB.out)) hb); clear HB; have HB := n0_; clear n0_; (try clear hb); (try clear hb2); (try clear hk); (try clear hi)) | ((with_reducible refine gate_callee (f := 60) rfl ?_); refine goesL_ (some 8) rfl rfl Try.func60 (by kernel_rfl) rfl #[.slice A0 l0.length c0] rfl (by (try simp only [List.map_toArray, List.map_cons, List.map_nil]); first | done | rfl) ?_; (with_reducible refine (spec_liHardest.calls k _ _ l0 t476 _ ?side1 ?side2 A4.out).mono ?_); (case side1 => repeat (first | exact (Kd.C_below HR0.out HB.out) | (with_reducible refine Kd.C_alloc ?_ _) | (with_reducible refine Kd.C_drewN ?_ _) | (with_reducible refine Kd.C_drew ?_))); (case side2 => exact HC0.out); rintro e w6 ⟨rfl, hb⟩; refine ⟨_, rfl, ?_⟩; have n0_ := Aside0.mk (below_step (by repeat (first | (with_reducible first | exact HB.out | apply bA_ | apply bN_ | apply b1_) | exact HB.out)) hb); clear HB; have HB := n0_; clear n0_; (try clear hb); (try clear hb2); (try clear hk); (try clear hi)))
 go_ret2
 exact ⟨by first | rfl | (simp [errW_none, errW_some] <;> rfl) | (simp [*, errW_none, errW_some] <;> rfl), by repeat (first | (with_reducible first | exact HB.out | apply bA_ | apply bN_ | apply b1_) | exact HB.out)⟩

/-! ### impl_upTo: function 82 -/
def impl_upTo.f (a0 : Int) (a1 : Int) : Option (Int) := if a1 = 0 then (none) else (some (wrap64 (Int.tdiv (wrap64 ((wrap64 (a0 + a1)) - 1)) a1)))
set_option maxHeartbeats 8000000 in
set_option maxRecDepth 100000 in
theorem impl_upTo.calls (a0 : Int) (a1 : Int) (r : Int) (w : World) (h : impl_upTo.f a0 a1 = some r) :
  Calls Try.prog 82 #[.int .i64 a0, .int .i64 a1] w fun e w' => e = .returned (.int .i64 r) ∧ Drawn0 w w' := by
 have H : (if a1 = 0 then (none) else (some (wrap64 (Int.tdiv (wrap64 ((wrap64 (a0 + a1)) - 1)) a1)))) = some r := h
 clear h
 by_cases c3 : a1 = 0
 case neg =>
  rw [if_neg c3] at H
  have c3b0 : (a1 == 0) = false := beq_eq_false_iff_ne.mpr c3
  have c3b1 : (a1 != 0) = true := bne_iff_ne.mpr c3
  obtain rfl := Option.some.inj H
  go_enter Try.func82, Try.ntmps82
  go_wp2
  go_ret
  exact ⟨by first | rfl | (simp; done) | (simp [*]; done), by repeat (first | exact Drawn0.refl _ | apply Drawn0.step)⟩
 rw [if_pos c3] at H
 exact absurd H (by simp)

/-! ### impl_hoseLoss: function 71 -/
def impl_hoseLoss.fac (k : Int) : Int := if k = 0 then 3 else if k = 1 then 20 else if k = 2 then 160 else 5000
def impl_hoseLoss.f (a0_0 : Int) (a0_1 : Int) (a1 : Int) : Option (Int) := if 0 ≤ a0_0 then (if a0_0 < 4 then (impl_upTo.f (wrap64 (wrap64 (wrap64 (impl_hoseLoss.fac a0_0 * a1) * a1) * a0_1)) 100000000) else none) else none
theorem impl_hoseLoss.calls (a0_0 : Int) (a0_1 : Int) (a1 : Int) (r : Int) (w : World) (h : impl_hoseLoss.f a0_0 a0_1 a1 = some r) :
  Calls Try.prog 71 #[.agg #[.int .i64 a0_0, .int .i64 a0_1], .int .i64 a1] w fun e w' => e = .returned (.int .i64 r) ∧ Below w.heap.size w w' := by
 have i0 : ∀ W : World, (Instr.index 78 (.agg #[.int .i64 3, .int .i64 20, .int .i64 160, .int .i64 5000]) (.int .i64 0)).run Try.prog W = .ok (.int .i64 3) W := fun _ => by kernel_rfl
 have i1 : ∀ W : World, (Instr.index 78 (.agg #[.int .i64 3, .int .i64 20, .int .i64 160, .int .i64 5000]) (.int .i64 1)).run Try.prog W = .ok (.int .i64 20) W := fun _ => by kernel_rfl
 have i2 : ∀ W : World, (Instr.index 78 (.agg #[.int .i64 3, .int .i64 20, .int .i64 160, .int .i64 5000]) (.int .i64 2)).run Try.prog W = .ok (.int .i64 160) W := fun _ => by kernel_rfl
 have i3 : ∀ W : World, (Instr.index 78 (.agg #[.int .i64 3, .int .i64 20, .int .i64 160, .int .i64 5000]) (.int .i64 3)).run Try.prog W = .ok (.int .i64 5000) W := fun _ => by kernel_rfl
 unfold impl_hoseLoss.f at h
 split at h
 case isFalse => exact absurd h (by simp)
 split at h
 case isFalse => exact absurd h (by simp)
 have hk : a0_0 = 0 ∨ a0_0 = 1 ∨ a0_0 = 2 ∨ a0_0 = 3 := by omega
 rcases hk with rfl | rfl | rfl | rfl
 · have h := Aside0.mk (show impl_upTo.f (wrap64 (wrap64 (wrap64 (3 * a1) * a1) * a0_1)) 100000000 = some r from h)
   go_enter Try.func71, Try.ntmps71
   go_wp2_with (go_at_call 82; (with_reducible refine (impl_upTo.calls _ _ r _ h.out).mono ?_); rintro e w' ⟨rfl, ⟨nd, rfl⟩⟩)
   go_ret
   exact ⟨rfl, by repeat (first | exact Below.refl _ _ | apply bA_ | apply bN_)⟩
 · have h := Aside0.mk (show impl_upTo.f (wrap64 (wrap64 (wrap64 (20 * a1) * a1) * a0_1)) 100000000 = some r from h)
   go_enter Try.func71, Try.ntmps71
   go_wp2_with (go_at_call 82; (with_reducible refine (impl_upTo.calls _ _ r _ h.out).mono ?_); rintro e w' ⟨rfl, ⟨nd, rfl⟩⟩)
   go_ret
   exact ⟨rfl, by repeat (first | exact Below.refl _ _ | apply bA_ | apply bN_)⟩
 · have h := Aside0.mk (show impl_upTo.f (wrap64 (wrap64 (wrap64 (160 * a1) * a1) * a0_1)) 100000000 = some r from h)
   go_enter Try.func71, Try.ntmps71
   go_wp2_with (go_at_call 82; (with_reducible refine (impl_upTo.calls _ _ r _ h.out).mono ?_); rintro e w' ⟨rfl, ⟨nd, rfl⟩⟩)
   go_ret
   exact ⟨rfl, by repeat (first | exact Below.refl _ _ | apply bA_ | apply bN_)⟩
 · have h := Aside0.mk (show impl_upTo.f (wrap64 (wrap64 (wrap64 (5000 * a1) * a1) * a0_1)) 100000000 = some r from h)
   go_enter Try.func71, Try.ntmps71
   go_wp2_with (go_at_call 82; (with_reducible refine (impl_upTo.calls _ _ r _ h.out).mono ?_); rintro e w' ⟨rfl, ⟨nd, rfl⟩⟩)
   go_ret
   exact ⟨rfl, by repeat (first | exact Below.refl _ _ | apply bA_ | apply bN_)⟩

end Go.Proofs.Ytenfngleiohbhaa.P
