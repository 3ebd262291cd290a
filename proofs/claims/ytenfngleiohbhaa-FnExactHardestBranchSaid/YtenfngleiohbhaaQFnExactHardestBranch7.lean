/- Written by a program of this session (wip/p2) out of the translation: plain Lean functions, and that the calls of the Go functions come to what these say. Conditions: as each contract states. -/
import Derived.Test.YtenfngleiohbhaaQFnExactHardestBranch6
namespace Go.Proofs.Ytenfngleiohbhaa.P
open Go.RowKit Go.Proofs.Ytenfngleiohbhaa Go.Proofs.YtenfngleiohbhaaW.PrintWords Go.Proofs.YtenfngleiohbhaaW.PrintLast Go.Proofs.YtenfngleiohbhaaW.PrintMore
attribute [local go_sem] max2_int min2_int max_two min_two max_three min_three max_four min_four   -- for this text's walks alone
set_option linter.unusedVariables false
set_option linter.unusedSimpArgs false

/-! ### impl_lossesTo: function 66 -/
def impl_lossesTo.l0 : Nat → List Int → List Int → List (S45) → Int → Int → Option (List Int)
  | 0, _, _, _, _, _ => none
  | k + 1, x3, x4, x12, x13, x14 => if x14 < x13 then (if 0 ≤ x14 then (if x14 < (x12.length : Int) then (if x14 < (x3.length : Int) then ((impl_hoseLoss.f ((rd_T45 x12 x14).f1.f0) ((rd_T45 x12 x14).f1.f1) (rd x3 x14)).bind fun t486 => (if x14 < (x4.length : Int) then ((some (x4.set (x14 : Int).toNat (wrap64 (t486 + ((rd_T45 x12 x14).f2))) : List Int)).bind fun y487 => (if ((rd_T45 x12 x14).f0) ≥ 0 then (if 0 ≤ ((rd_T45 x12 x14).f0) then (if ((rd_T45 x12 x14).f0) < (x4.length : Int) then (impl_lossesTo.l0 k x3 (y487.set (x14 : Int).toNat (wrap64 ((rd y487 x14) + (rd y487 ((rd_T45 x12 x14).f0))))) x12 x13 (wrap64 (x14 + 1))) else (none)) else (none)) else (impl_lossesTo.l0 k x3 y487 x12 x13 (wrap64 (x14 + 1))))) else (none))) else (none)) else (none)) else (none)) else (some x4)
def impl_lossesTo.f (k : Nat) (l0 : List (S45)) : Option (List Int) := (impl_flowsIn.f k l0).bind fun t477 => (if 0 ≤ (l0.length : Int) then (if ((l0.length : Int) : Int).toNat ≤ 35184372088832 then (impl_lossesTo.l0 k t477 (List.replicate ((l0.length : Int) : Int).toNat 0) l0 (l0.length : Int) 0) else (none)) else (none))
theorem impl_lossesTo.mono_l : ∀ k, (∀ y0 y1 y2 y3 y4, LeO (impl_lossesTo.l0 k y0 y1 y2 y3 y4) (impl_lossesTo.l0 (k + 1) y0 y1 y2 y3 y4))
 | 0 => fun _ _ _ _ _ r h => by simp [impl_lossesTo.l0] at h
 | k + 1 => by
  have ih0 := impl_lossesTo.mono_l k
  · intro y0 y1 y2 y3 y4
    unfold impl_lossesTo.l0
    repeat' first
    | (with_reducible exact ih0 _ _ _ _ _)
    | (with_reducible exact impl_flowsIn.mono _ _)
    | (with_reducible exact LeO.refl _)
    | (with_reducible exact LeO.none _)
    | (with_reducible refine LeO.ite ?_ ?_)
    | (with_reducible refine LeO.bind ?_ (fun _ => ?_))
    | exact ih0 _ _ _ _ _
    | exact impl_flowsIn.mono _ _
    | exact LeO.none _
    | refine LeO.ite ?_ ?_
    | refine LeO.bind ?_ (fun _ => ?_)
theorem impl_lossesTo.mono : ∀ a0 k, LeO (impl_lossesTo.f k a0) (impl_lossesTo.f (k + 1) a0) := by
 intro a0 k
 have ih0 := impl_lossesTo.mono_l k
 unfold impl_lossesTo.f
 repeat' first
  | (with_reducible exact ih0 _ _ _ _ _)
  | (with_reducible exact impl_flowsIn.mono _ _)
  | (with_reducible exact LeO.refl _)
  | (with_reducible exact LeO.none _)
  | (with_reducible refine LeO.ite ?_ ?_)
  | (with_reducible refine LeO.bind ?_ (fun _ => ?_))
  | exact ih0 _ _ _ _ _
  | exact impl_flowsIn.mono _ _
  | exact LeO.none _
  | refine LeO.ite ?_ ?_
  | refine LeO.bind ?_ (fun _ => ?_)
def impl_lossesTo.T6 : Bool × List (List Nat × List Nat) := (true, [([], []), ([], []), ([], []), ([2], [2]), ([], []), ([], []), ([4, 5], [4, 5]), ([6], [6]), ([3, 7], [3, 7]), ([], []), ([9], [9]), ([8, 10], [8, 10]), ([0, 1, 0, 1, 2, 3, 4, 5, 6, 7, 8, 9, 10, 11], [0, 1]), ([12, 11, 8, 0, 1, 2, 3, 4, 5, 6, 7, 8, 9, 10, 11], [11, 12])])
def impl_lossesTo.B6 : List Nat := [0, 0, 0, 4, 0, 0, 48, 112, 252, 0, 512, 2044, 4095, 8191]
theorem impl_lossesTo.tab6 : rtab .any (opsOf Try.f66 6) = impl_lossesTo.T6 := by kernel_rfl
theorem impl_lossesTo.bits6 : waitsOk impl_lossesTo.T6.2 impl_lossesTo.B6 = true := by kernel_rfl
def impl_lossesTo.T8 : Bool × List (List Nat × List Nat) := (true, [([], []), ([], []), ([0, 1], [0, 1]), ([2], [2]), ([], []), ([], []), ([5], [5]), ([4, 6], [4, 6]), ([7], [7]), ([3, 8], [3, 8]), ([0, 1, 0, 1, 2, 3, 4, 5, 6, 7, 8, 9], [0, 1]), ([10, 9, 0, 1, 2, 3, 4, 5, 6, 7, 8, 9], [9, 10])])
def impl_lossesTo.B8 : List Nat := [0, 0, 3, 7, 0, 0, 32, 112, 240, 511, 1023, 2047]
theorem impl_lossesTo.tab8 : rtab .any (opsOf Try.f66 8) = impl_lossesTo.T8 := by kernel_rfl
theorem impl_lossesTo.bits8 : waitsOk impl_lossesTo.T8.2 impl_lossesTo.B8 = true := by kernel_rfl
set_option maxHeartbeats 8000000 in
set_option maxRecDepth 100000 in
theorem impl_lossesTo.calls (k : Nat) (A0 : Option Addr) (c0 : Nat) (l0 : List (S45)) (r : List Int) (w : World) (hr0 : Kd.C k45 w A0 l0.length l0) (hc0 : l0.length ≤ c0) (h : impl_lossesTo.f k l0 = some r) :
  Calls Try.prog 66 #[.slice A0 l0.length c0] w fun e w' => ∃ v0_ : Value, e = .returned (v0_) ∧ Kd.R (Kd.int .i64) 3 w' w.heap.size (fun _ => True) v0_ r ∧ Below w.heap.size w w' := by
 have hu45 := Try.underlying45
 have hu43 := Try.underlying43
 have HR0 := Aside0.mk hr0
 have HC0 := Aside0.mk hc0
 clear hr0 hc0
 have HB := Aside0.mk (Below.refl w.heap.size w)
 have H : ((impl_flowsIn.f k l0).bind fun t477 => (if 0 ≤ (l0.length : Int) then (if ((l0.length : Int) : Int).toNat ≤ 35184372088832 then (impl_lossesTo.l0 k t477 (List.replicate ((l0.length : Int) : Int).toNat 0) l0 (l0.length : Int) 0) else (none)) else (none))) = some r := h
 clear h
 replace H := Option.bind_eq_some_iff.mp H
 obtain ⟨t477, A20, H⟩ := H
 replace H : (if 0 ≤ (l0.length : Int) then (if ((l0.length : Int) : Int).toNat ≤ 35184372088832 then (impl_lossesTo.l0 k t477 (List.replicate ((l0.length : Int) : Int).toNat 0) l0 (l0.length : Int) 0) else (none)) else (none)) = some r := H
 have A2 := Aside0.mk A20
 clear A20
 by_cases c3 : 0 ≤ (l0.length : Int)
 case neg =>
  rw [if_neg c3] at H
  exact absurd H (by simp)
 rw [if_pos c3] at H
 have c3b0 := eq_true c3
 have c3b1 : decide (0 ≤ (l0.length : Int)) = true := decide_eq_true c3
 clear c3
 by_cases c4 : ((l0.length : Int) : Int).toNat ≤ 35184372088832
 case neg =>
  rw [if_neg c4] at H
  exact absurd H (by simp)
 rw [if_pos c4] at H
 have c4b0 := eq_true c4
 have c4b1 : decide (((l0.length : Int) : Int).toNat ≤ 35184372088832) = true := decide_eq_true c4
 clear c4
 obtain ⟨y480, hy480⟩ : ∃ y_ : List Int, y_ = (List.replicate ((l0.length : Int) : Int).toNat 0) := ⟨_, rfl⟩
 replace H : (impl_lossesTo.l0 k t477 y480 l0 (l0.length : Int) 0) = some r := by first | (rw [hy480]; with_reducible exact H) | (have H2_ := (Option.bind_some _ _).symm.trans H; rw [hy480]; with_reducible exact H2_) | (have H2_ := (Option.bind_some _ _).symm.trans H; with_reducible exact H2_) | with_reducible exact H | (rw [hy480]; exact H) | exact H
 have Ny480 := Aside0.mk hy480
 clear hy480
 have H' := Aside0.mk H
 clear H
 go_enter Try.func66, Try.ntmps66
 go_wp2_with (first | ((with_reducible refine gate_callee (f := 57) rfl ?_); refine goesL_ (some 8) rfl rfl Try.func57 (by kernel_rfl) rfl #[.slice A0 l0.length c0] rfl (by (try simp only [List.map_toArray, List.map_cons, List.map_nil]); first | done | rfl) ?_; (with_reducible refine (impl_flowsIn.calls k _ _ l0 t477 _ ?side1 ?side2 A2.out).mono ?_); (case side1 => repeat (first | exact HR0.out | (with_reducible refine Kd.C_alloc ?_ _) | (with_reducible refine Kd.C_drewN ?_ _) | (with_reducible refine Kd.C_drew ?_))); (case side2 => exact HC0.out); rintro e w5 ⟨v478, rfl, ho0, hb⟩; refine ⟨_, rfl, ?_⟩; have n0_ := Aside0.mk (Kd.R_lower ho0 (below_size (by repeat (first | (with_reducible first | exact HB.out | apply bA_ | apply bN_ | apply b1_) | exact HB.out)))); have n1_ := Aside0.mk (below_step (by repeat (first | (with_reducible first | exact HB.out | apply bA_ | apply bN_ | apply b1_) | exact HB.out)) hb); clear HB; have HO479 := n0_; have HB := n1_; clear n0_ n1_; (try clear hb); (try clear hb2); (try clear hk); (try clear hi); (try clear ho0)) | ((with_reducible refine gate_dst (N := 11) rfl ?_); refine Kd.R_make (Kd.int .i64) _ 3 rfl (N := 11) rfl 31 _ _ rfl (l0.length : Int) rfl rfl Try.underlying31 (.int .i64 0) 8 info3 rfl (by decide) (by omega) 0 (ok := fun _ => True) (okp := fun _ => True) rfl (fun _ hk => hk) trivial (of_decide_eq_true (by first|with_reducible assumption|assumption)) (Nat.le_trans (Nat.mul_le_mul_right _ (of_decide_eq_true (by first|with_reducible assumption|assumption) : (l0.length : Int).toNat ≤ 35184372088832)) (by omega)) (Below.refl _ _) (Nat.le_refl _) ?_; intro v481 w6 ho7 hb hg_ hnew_; clear hg_ hnew_; (first | rw [← Ny480.out] at ho7 | (simp only [Int.reduceToNat] at ho7; rw [← Ny480.out] at ho7)); have n0_ := Aside0.mk (Kd.R_elder' (by (with_reducible repeat (first | apply Kd.R_alloc | apply Kd.R_drewN | apply Kd.R_drew)); exact HO479.out) (Kd.R_base ho7) hb); have n1_ := Aside0.mk (Kd.R_lower (Kd.R_new' ho7 (Kd.R_lt (by (with_reducible repeat (first | apply Kd.R_alloc | apply Kd.R_drewN | apply Kd.R_drew)); exact HO479.out))) (below_size (by repeat (first | (with_reducible first | exact HB.out | apply bA_ | apply bN_ | apply b1_) | exact HB.out)))); have n2_ := Aside0.mk (below_step (by repeat (first | (with_reducible first | exact HB.out | apply bA_ | apply bN_ | apply b1_) | exact HB.out)) hb); clear HO479; clear HB; have HO479 := n0_; have HO482 := n1_; have HB := n2_; clear n0_ n1_ n2_; clear hb ho7))
 go_loopg [14] k (fun kq v14 w' => ∃ (x4_1 : List Int) (x14_1 : Int), v14 = .int .i64 x14_1 ∧ Aside0 (impl_lossesTo.l0 kq t477 x4_1 l0 (l0.length : Int) x14_1 = some r) ∧ Aside0 (kq ≤ k) ∧ Aside0 (Kd.R (Kd.int .i64) 3 w' w.heap.size (fun k_ => some k_ ≠ (v481 : Value).ownBlock) v478 t477) ∧ Aside0 (Kd.R (Kd.int .i64) 3 w' w.heap.size (fun k_ => some k_ ≠ (v478 : Value).ownBlock) v481 x4_1) ∧ Aside0 (Below w.heap.size w w'))
 case atStart => exact ⟨(y480), (0), (by first | rfl | (simp; done) | (simp [*]; done)), H', ⟨Nat.le_refl _⟩, ⟨by (with_reducible repeat (first | apply Kd.R_alloc | apply Kd.R_drewN | apply Kd.R_drew)); exact Kd.R_mono HO479.out (fun _ hk => hk.2)⟩, ⟨by (with_reducible repeat (first | apply Kd.R_alloc | apply Kd.R_drewN | apply Kd.R_drew)); exact Kd.R_mono HO482.out (fun _ hk => hk.2)⟩, ⟨by repeat (first | (with_reducible first | exact HB.out | apply bA_ | apply bN_ | apply b1_) | exact HB.out)⟩⟩
 case round =>
  clear H'
  try clear p2
  try clear c3
  try clear c3b0
  try clear c3b1
  try clear c4
  try clear c4b0
  try clear c4b1
  try clear c5
  try clear c6
  obtain ⟨x4_1, x14_1, rfl, HA, HK1, HO_3, HO_4, HB⟩ := hrel
  cases gk with
  | zero => exact absurd HA.out (by simp [impl_lossesTo.l0])
  | succ k1 =>
   have H := HA.out
   clear HA
   simp only [impl_lossesTo.l0] at H
   by_cases c8 : x14_1 < (l0.length : Int)
   case neg =>
    rw [if_neg c8] at H
    have c8b0 : decide (x14_1 < (l0.length : Int)) = false := decide_eq_false c8
    clear c8
    obtain rfl := Option.some.inj H
    go_wp2
    go_ret
    exact ⟨_, by first | rfl | (simp [errW_none, errW_some] <;> rfl) | (simp [*, errW_none, errW_some] <;> rfl), by (with_reducible repeat (first | apply Kd.R_alloc | apply Kd.R_drewN | apply Kd.R_drew)); exact Kd.R_mono HO_4.out (fun _ hk => trivial), by repeat (first | (with_reducible first | exact HB.out | apply bA_ | apply bN_ | apply b1_) | exact HB.out)⟩
   rw [if_pos c8] at H
   have c8b0 : decide (x14_1 < (l0.length : Int)) = true := decide_eq_true c8
   clear c8
   by_cases c9 : 0 ≤ x14_1
   case neg =>
    rw [if_neg c9] at H
    exact absurd H (by simp)
   rw [if_pos c9] at H
   have c9b0 : decide (0 ≤ x14_1) = true := decide_eq_true c9
   clear c9
   by_cases c10 : x14_1 < (l0.length : Int)
   case neg =>
    rw [if_neg c10] at H
    exact absurd H (by simp)
   rw [if_pos c10] at H
   have c10b0 : decide (x14_1 < (l0.length : Int)) = true := decide_eq_true c10
   clear c10
   by_cases c11 : x14_1 < (t477.length : Int)
   case neg =>
    rw [if_neg c11] at H
    exact absurd H (by simp)
   rw [if_pos c11] at H
   have c11b0 : decide (x14_1 < (t477.length : Int)) = true := decide_eq_true c11
   clear c11
   replace H := Option.bind_eq_some_iff.mp H
   obtain ⟨t486, A120, H⟩ := H
   replace H : (if x14_1 < (x4_1.length : Int) then ((some (x4_1.set (x14_1 : Int).toNat (wrap64 (t486 + ((rd_T45 l0 x14_1).f2))) : List Int)).bind fun y487 => (if ((rd_T45 l0 x14_1).f0) ≥ 0 then (if 0 ≤ ((rd_T45 l0 x14_1).f0) then (if ((rd_T45 l0 x14_1).f0) < (x4_1.length : Int) then (impl_lossesTo.l0 k1 t477 (y487.set (x14_1 : Int).toNat (wrap64 ((rd y487 x14_1) + (rd y487 ((rd_T45 l0 x14_1).f0))))) l0 (l0.length : Int) (wrap64 (x14_1 + 1))) else (none)) else (none)) else (impl_lossesTo.l0 k1 t477 y487 l0 (l0.length : Int) (wrap64 (x14_1 + 1))))) else (none)) = some r := H
   have A12 := Aside0.mk A120
   clear A120
   by_cases c13 : x14_1 < (x4_1.length : Int)
   case neg =>
    rw [if_neg c13] at H
    exact absurd H (by simp)
   rw [if_pos c13] at H
   have c13b0 : decide (x14_1 < (x4_1.length : Int)) = true := decide_eq_true c13
   clear c13
   obtain ⟨y487, hy487⟩ : ∃ y_ : List Int, y_ = (x4_1.set (x14_1 : Int).toNat (wrap64 (t486 + ((rd_T45 l0 x14_1).f2)))) := ⟨_, rfl⟩
   replace H : (if ((rd_T45 l0 x14_1).f0) ≥ 0 then (if 0 ≤ ((rd_T45 l0 x14_1).f0) then (if ((rd_T45 l0 x14_1).f0) < (x4_1.length : Int) then (impl_lossesTo.l0 k1 t477 (y487.set (x14_1 : Int).toNat (wrap64 ((rd y487 x14_1) + (rd y487 ((rd_T45 l0 x14_1).f0))))) l0 (l0.length : Int) (wrap64 (x14_1 + 1))) else (none)) else (none)) else (impl_lossesTo.l0 k1 t477 y487 l0 (l0.length : Int) (wrap64 (x14_1 + 1)))) = some r := by first | (rw [hy487]; with_reducible exact H) | (have H2_ := (Option.bind_some _ _).symm.trans H; rw [hy487]; with_reducible exact H2_) | (have H2_ := (Option.bind_some _ _).symm.trans H; with_reducible exact H2_) | with_reducible exact H | (rw [hy487]; exact H) | exact H
   have Ny487 := Aside0.mk hy487
   clear hy487
   by_cases c15 : ((rd_T45 l0 x14_1).f0) ≥ 0
   case neg =>
    rw [if_neg c15] at H
    have c15b0 : decide (0 ≤ ((rd_T45 l0 x14_1).f0)) = false := decide_eq_false c15
    clear c15
    have H' := Aside0.mk H
    clear H
    have p483 : 0 ≤ (x14_1 : Int) := of_decide_eq_true (by first|with_reducible assumption|assumption)
    have q483 : x14_1 < (l0.length : Int) := of_decide_eq_true (by first|with_reducible assumption|assumption)
    obtain ⟨ad483, e483, hx483_0, hx483_1, hx483_2, hx483_3, hx483_4, hx483_5⟩ := at_T45 HR0.out x14_1 p483 q483
    cases e483
    replace hx483_0 := cl_ HB.out hx483_0
    replace hx483_1 := cl_ HB.out hx483_1
    replace hx483_2 := cl_ HB.out hx483_2
    replace hx483_3 := cl_ HB.out hx483_3
    replace hx483_4 := cl_ HB.out hx483_4
    replace hx483_5 := cl_ HB.out hx483_5
    replace p483 := eq_true p483
    replace q483 := eq_true q483
    try go_wp2_with (first | ((with_reducible refine gate_dst (N := 6) rfl ?_); refine box_event ?hg (N := 6) ?hd (cs := #[.int .i64 0, .int .i64 0, .int .i64 0, .int .i64 0, .int .i64 0, .int .i64 0]) (t := 45) ?hr ?_; (case hd => rfl); (case hg => rfl); (case hr => first | (go_simp; done) | (go_simp; rfl)); intro gb484 hg w30 hbox hb; have n0_ := Aside0.mk (Kd.R_below (by (with_reducible repeat (first | apply Kd.R_alloc | apply Kd.R_drewN | apply Kd.R_drew)); exact HO_3.out) hb); have n1_ := Aside0.mk (Kd.R_below (by (with_reducible repeat (first | apply Kd.R_alloc | apply Kd.R_drewN | apply Kd.R_drew)); exact HO_4.out) hb); have n2_ := Aside0.mk (below_step (by repeat (first | (with_reducible first | exact HB.out | apply bA_ | apply bN_ | apply b1_) | exact HB.out)) hb); have n3_ := Aside0.mk (hbox); have n4_ := Aside0.mk ((by rw [hg]; exact (below_size (by repeat (first | (with_reducible first | exact HB.out | apply bA_ | apply bN_ | apply b1_) | exact HB.out))) : w.heap.size ≤ gb484)); have n5_ := n4_; clear HO_3; clear HO_4; clear HB; have HO_3 := n0_; have HO_4 := n1_; have HB := n2_; have BK484 := n3_; have GW484 := n4_; have GE484 := n5_; clear n0_ n1_ n2_ n3_ n4_ n5_; clear hb hbox hg; obtain ⟨hcz31_0, hcz31_1, hcz31_2, hcz31_3, hcz31_4, hcz31_5, hfz31_0, hfz31_1, hfz31_2, hfz31_3, hfz31_4, hfz31_5⟩ := blk6_ BK484.out))
    have n0_ : Aside0 (Kd.R (Kd.int .i64) 3 ((((((w30.setCell ⟨gb484, 0, none⟩ (.int .i64 ((rd_T45 l0 x14_1).f0))).setCell ⟨gb484, 1, none⟩ (.int .i64 ((rd_T45 l0 x14_1).f1.f0))).setCell ⟨gb484, 2, none⟩ (.int .i64 ((rd_T45 l0 x14_1).f1.f1))).setCell ⟨gb484, 3, none⟩ (.int .i64 ((rd_T45 l0 x14_1).f2))).setCell ⟨gb484, 4, none⟩ (.int .i64 ((rd_T45 l0 x14_1).f3))).setCell ⟨gb484, 5, none⟩ (.int .i64 ((rd_T45 l0 x14_1).f4))) w.heap.size (fun k_ => some k_ ≠ (v481 : Value).ownBlock) v478 t477) := ⟨by (with_reducible repeat (first | apply Kd.R_alloc | apply Kd.R_drewN | apply Kd.R_drew)); exact Kd.R_mono (Kd.R_far (p := ⟨gb484, 5, none⟩) (Kd.R_far (p := ⟨gb484, 4, none⟩) (Kd.R_far (p := ⟨gb484, 3, none⟩) (Kd.R_far (p := ⟨gb484, 2, none⟩) (Kd.R_far (p := ⟨gb484, 1, none⟩) (Kd.R_far (p := ⟨gb484, 0, none⟩) (Kd.R_types HO_3.out BK484.out (by decide)) (fun _ hk => hk.2) (.int .i64 ((rd_T45 l0 x14_1).f0))) (fun _ hk => hk.2) (.int .i64 ((rd_T45 l0 x14_1).f1.f0))) (fun _ hk => hk.2) (.int .i64 ((rd_T45 l0 x14_1).f1.f1))) (fun _ hk => hk.2) (.int .i64 ((rd_T45 l0 x14_1).f2))) (fun _ hk => hk.2) (.int .i64 ((rd_T45 l0 x14_1).f3))) (fun _ hk => hk.2) (.int .i64 ((rd_T45 l0 x14_1).f4))) (fun _ hk => hk.1)⟩
    have n1_ : Aside0 (Kd.R (Kd.int .i64) 3 ((((((w30.setCell ⟨gb484, 0, none⟩ (.int .i64 ((rd_T45 l0 x14_1).f0))).setCell ⟨gb484, 1, none⟩ (.int .i64 ((rd_T45 l0 x14_1).f1.f0))).setCell ⟨gb484, 2, none⟩ (.int .i64 ((rd_T45 l0 x14_1).f1.f1))).setCell ⟨gb484, 3, none⟩ (.int .i64 ((rd_T45 l0 x14_1).f2))).setCell ⟨gb484, 4, none⟩ (.int .i64 ((rd_T45 l0 x14_1).f3))).setCell ⟨gb484, 5, none⟩ (.int .i64 ((rd_T45 l0 x14_1).f4))) w.heap.size (fun k_ => some k_ ≠ (v478 : Value).ownBlock) v481 x4_1) := ⟨by (with_reducible repeat (first | apply Kd.R_alloc | apply Kd.R_drewN | apply Kd.R_drew)); exact Kd.R_mono (Kd.R_far (p := ⟨gb484, 5, none⟩) (Kd.R_far (p := ⟨gb484, 4, none⟩) (Kd.R_far (p := ⟨gb484, 3, none⟩) (Kd.R_far (p := ⟨gb484, 2, none⟩) (Kd.R_far (p := ⟨gb484, 1, none⟩) (Kd.R_far (p := ⟨gb484, 0, none⟩) (Kd.R_types HO_4.out BK484.out (by decide)) (fun _ hk => hk.2) (.int .i64 ((rd_T45 l0 x14_1).f0))) (fun _ hk => hk.2) (.int .i64 ((rd_T45 l0 x14_1).f1.f0))) (fun _ hk => hk.2) (.int .i64 ((rd_T45 l0 x14_1).f1.f1))) (fun _ hk => hk.2) (.int .i64 ((rd_T45 l0 x14_1).f2))) (fun _ hk => hk.2) (.int .i64 ((rd_T45 l0 x14_1).f3))) (fun _ hk => hk.2) (.int .i64 ((rd_T45 l0 x14_1).f4))) (fun _ hk => hk.1)⟩
    have n2_ : Aside0 (((((((w30.setCell ⟨gb484, 0, none⟩ (.int .i64 ((rd_T45 l0 x14_1).f0))).setCell ⟨gb484, 1, none⟩ (.int .i64 ((rd_T45 l0 x14_1).f1.f0))).setCell ⟨gb484, 2, none⟩ (.int .i64 ((rd_T45 l0 x14_1).f1.f1))).setCell ⟨gb484, 3, none⟩ (.int .i64 ((rd_T45 l0 x14_1).f2))).setCell ⟨gb484, 4, none⟩ (.int .i64 ((rd_T45 l0 x14_1).f3))).setCell ⟨gb484, 5, none⟩ (.int .i64 ((rd_T45 l0 x14_1).f4))).heap[gb484]? = some (.cells #[.int .i64 ((rd_T45 l0 x14_1).f0), .int .i64 ((rd_T45 l0 x14_1).f1.f0), .int .i64 ((rd_T45 l0 x14_1).f1.f1), .int .i64 ((rd_T45 l0 x14_1).f2), .int .i64 ((rd_T45 l0 x14_1).f3), .int .i64 ((rd_T45 l0 x14_1).f4)] 45 (0, 0))) := ⟨by (with_reducible repeat (first | refine blk_drewN ?_ _ | refine blk_drew ?_ | refine blk_alloc ?_ _)); refine blk_put (cs := #[.int .i64 ((rd_T45 l0 x14_1).f0), .int .i64 ((rd_T45 l0 x14_1).f1.f0), .int .i64 ((rd_T45 l0 x14_1).f1.f1), .int .i64 ((rd_T45 l0 x14_1).f2), .int .i64 ((rd_T45 l0 x14_1).f3), .int .i64 0]) ?_ 5 _ rfl; (with_reducible repeat (first | refine blk_drewN ?_ _ | refine blk_drew ?_ | refine blk_alloc ?_ _)); refine blk_put (cs := #[.int .i64 ((rd_T45 l0 x14_1).f0), .int .i64 ((rd_T45 l0 x14_1).f1.f0), .int .i64 ((rd_T45 l0 x14_1).f1.f1), .int .i64 ((rd_T45 l0 x14_1).f2), .int .i64 0, .int .i64 0]) ?_ 4 _ rfl; (with_reducible repeat (first | refine blk_drewN ?_ _ | refine blk_drew ?_ | refine blk_alloc ?_ _)); refine blk_put (cs := #[.int .i64 ((rd_T45 l0 x14_1).f0), .int .i64 ((rd_T45 l0 x14_1).f1.f0), .int .i64 ((rd_T45 l0 x14_1).f1.f1), .int .i64 0, .int .i64 0, .int .i64 0]) ?_ 3 _ rfl; (with_reducible repeat (first | refine blk_drewN ?_ _ | refine blk_drew ?_ | refine blk_alloc ?_ _)); refine blk_put (cs := #[.int .i64 ((rd_T45 l0 x14_1).f0), .int .i64 ((rd_T45 l0 x14_1).f1.f0), .int .i64 0, .int .i64 0, .int .i64 0, .int .i64 0]) ?_ 2 _ rfl; (with_reducible repeat (first | refine blk_drewN ?_ _ | refine blk_drew ?_ | refine blk_alloc ?_ _)); refine blk_put (cs := #[.int .i64 ((rd_T45 l0 x14_1).f0), .int .i64 0, .int .i64 0, .int .i64 0, .int .i64 0, .int .i64 0]) ?_ 1 _ rfl; (with_reducible repeat (first | refine blk_drewN ?_ _ | refine blk_drew ?_ | refine blk_alloc ?_ _)); refine blk_put (cs := #[.int .i64 0, .int .i64 0, .int .i64 0, .int .i64 0, .int .i64 0, .int .i64 0]) ?_ 0 _ rfl; (with_reducible repeat (first | refine blk_drewN ?_ _ | refine blk_drew ?_ | refine blk_alloc ?_ _)); exact BK484.out⟩
    have n3_ : Aside0 (Below w.heap.size w ((((((w30.setCell ⟨gb484, 0, none⟩ (.int .i64 ((rd_T45 l0 x14_1).f0))).setCell ⟨gb484, 1, none⟩ (.int .i64 ((rd_T45 l0 x14_1).f1.f0))).setCell ⟨gb484, 2, none⟩ (.int .i64 ((rd_T45 l0 x14_1).f1.f1))).setCell ⟨gb484, 3, none⟩ (.int .i64 ((rd_T45 l0 x14_1).f2))).setCell ⟨gb484, 4, none⟩ (.int .i64 ((rd_T45 l0 x14_1).f3))).setCell ⟨gb484, 5, none⟩ (.int .i64 ((rd_T45 l0 x14_1).f4)))) := ⟨by repeat (first | (with_reducible first | exact HB.out | apply bA_ | apply bN_ | apply b1_ | refine below_set ?_ GE484.out) | exact HB.out)⟩
    (try clear HO_3)
    (try clear HO_4)
    (try clear BK484)
    (try clear HB)
    generalize ((((((w30.setCell ⟨gb484, 0, none⟩ (.int .i64 ((rd_T45 l0 x14_1).f0))).setCell ⟨gb484, 1, none⟩ (.int .i64 ((rd_T45 l0 x14_1).f1.f0))).setCell ⟨gb484, 2, none⟩ (.int .i64 ((rd_T45 l0 x14_1).f1.f1))).setCell ⟨gb484, 3, none⟩ (.int .i64 ((rd_T45 l0 x14_1).f2))).setCell ⟨gb484, 4, none⟩ (.int .i64 ((rd_T45 l0 x14_1).f3))).setCell ⟨gb484, 5, none⟩ (.int .i64 ((rd_T45 l0 x14_1).f4))) = w32 at n0_ n1_ n2_ n3_ ⊢
    have HO_3 := n0_
    have HO_4 := n1_
    have BK484 := n2_
    have HB := n3_
    clear n0_ n1_ n2_ n3_
    have n0_ := Aside0.mk (Kd.R_drew HO_3.out)
    have n1_ := Aside0.mk (Kd.R_drew HO_4.out)
    have n2_ := Aside0.mk (blk_drew BK484.out)
    have n3_ := Aside0.mk (below_drew1 HB.out)
    clear HO_3
    clear HO_4
    clear BK484
    clear HB
    have HO_3 := n0_
    have HO_4 := n1_
    have BK484 := n2_
    have HB := n3_
    clear n0_ n1_ n2_ n3_
    obtain ⟨Ao34, co34, eo34⟩ := Kd.R_slice HO_3.out
    (first | subst eo34 | (injection eo34 with f1_ f2_ f3_; have f4_ := f1_.symm; have f5_ := f3_.symm; clear f1_ f2_ f3_; subst f4_; subst f5_))
    have p485 : 0 ≤ (x14_1 : Int) := of_decide_eq_true (by first|with_reducible assumption|assumption)
    have q485 : x14_1 < (t477.length : Int) := of_decide_eq_true (by first|with_reducible assumption|assumption)
    obtain ⟨ad485, e485, hx485_0⟩ := Kd.at_int (Kd.R_reads' HO_3.out).2.2 x14_1 p485 q485
    cases e485
    replace p485 := eq_true p485
    replace q485 := eq_true q485
    refine start_ (n := 14) (S := fun w' => w'.cell? ⟨gb484, 0, none⟩ = some (.int .i64 ((rd_T45 l0 x14_1).f0)) ∧ w'.cell? ⟨gb484, 1, none⟩ = some (.int .i64 ((rd_T45 l0 x14_1).f1.f0)) ∧ w'.cell? ⟨gb484, 2, none⟩ = some (.int .i64 ((rd_T45 l0 x14_1).f1.f1)) ∧ w'.cell? ⟨gb484, 3, none⟩ = some (.int .i64 ((rd_T45 l0 x14_1).f2)) ∧ w'.cell? ⟨gb484, 4, none⟩ = some (.int .i64 ((rd_T45 l0 x14_1).f3)) ∧ w'.cell? ⟨gb484, 5, none⟩ = some (.int .i64 ((rd_T45 l0 x14_1).f4)) ∧ w'.cell? (ad485.add (x14_1).toNat) = some (.int .i64 (rd t477 x14_1))) (ds := [13]) #[false, false, false, false, false, false, false, false, false, false, false, false, false, false] (by kernel_rfl) rfl rfl ⟨(blk_cell BK484.out 0).trans rfl, (blk_cell BK484.out 1).trans rfl, (blk_cell BK484.out 2).trans rfl, (blk_cell BK484.out 3).trans rfl, (blk_cell BK484.out 4).trans rfl, (blk_cell BK484.out 5).trans rfl, hx485_0⟩ (fun hHeld => ?_); refine with_tabW impl_lossesTo.tab6 impl_lossesTo.bits6 (fun HT_ HW_ => ?_)
    generalize w32.drew = w33 at HO_3 HO_4 BK484 HB hx485_0 hHeld ⊢
    refine pure_ (i := 0) (N := some 19) (v := ?_) (a' := ?_) #[true, false, false, false, false, false, false, false, false, false, false, false, false, false] rfl rfl (any_of HT_.out (by kernel_rfl)) (fun _ _ _ h => h) (Or.inl ⟨by rfl, ?_⟩) ?_ ?_
    rotate_left
    · intro w'
      go_simp
      with_reducible rfl
    rotate_left
    · simp only [Act.put, List.setIfInBounds_toArray, List.set_cons_zero, List.set_cons_succ, i64_w, i32_w]
      rfl
    refine pure_ (i := 1) (N := some 20) (v := ?_) (a' := ?_) #[true, true, false, false, false, false, false, false, false, false, false, false, false, false] rfl rfl (any_of HT_.out (by kernel_rfl)) (fun _ _ _ h => h) (Or.inl ⟨by rfl, ?_⟩) ?_ ?_
    rotate_left
    · intro w'
      go_simp
      with_reducible rfl
    rotate_left
    · simp only [Act.put, List.setIfInBounds_toArray, List.set_cons_zero, List.set_cons_succ, i64_w, i32_w]
      rfl
    refine pure_ (i := 2) (N := some 21) (v := ?_) (a' := ?_) #[true, true, true, false, false, false, false, false, false, false, false, false, false, false] rfl rfl (any_of HT_.out (by kernel_rfl)) (fun _ _ _ h => h) (Or.inl ⟨by rfl, ?_⟩) ?_ ?_
    rotate_left
    · intro w'
      go_simp
      with_reducible rfl
    rotate_left
    · simp only [Act.put, List.setIfInBounds_toArray, List.set_cons_zero, List.set_cons_succ, i64_w, i32_w]
      rfl
    refine pure_ (i := 4) (N := some 23) (v := ?_) (a' := ?_) #[true, true, true, false, true, false, false, false, false, false, false, false, false, false] rfl rfl (any_of HT_.out (by kernel_rfl)) (fun _ _ _ h => h) (Or.inl ⟨by rfl, ?_⟩) ?_ ?_
    rotate_left
    · intro w'
      go_simp
      with_reducible rfl
    rotate_left
    · simp only [Act.put, List.setIfInBounds_toArray, List.set_cons_zero, List.set_cons_succ, i64_w, i32_w]
      rfl
    refine pure_ (i := 5) (N := some 24) (v := ?_) (a' := ?_) #[true, true, true, false, true, true, false, false, false, false, false, false, false, false] rfl rfl (any_of HT_.out (by kernel_rfl)) (fun _ _ _ h => h) (Or.inl ⟨by rfl, ?_⟩) ?_ ?_
    rotate_left
    · intro w'
      go_simp
      with_reducible rfl
    rotate_left
    · simp only [Act.put, List.setIfInBounds_toArray, List.set_cons_zero, List.set_cons_succ, i64_w, i32_w]
      rfl
    refine pure_ (i := 6) (N := some 25) (v := ?_) (a' := ?_) #[true, true, true, false, true, true, true, false, false, false, false, false, false, false] rfl rfl (any_of HT_.out (by kernel_rfl)) (fun _ _ _ h => h) (Or.inl ⟨by rfl, ?_⟩) ?_ ?_
    rotate_left
    · intro w'
      go_simp
      with_reducible rfl
    rotate_left
    · simp only [Act.put, List.setIfInBounds_toArray, List.set_cons_zero, List.set_cons_succ, i64_w, i32_w]
      rfl
    refine pure_ (i := 9) (N := some 28) (v := ?_) (a' := ?_) #[true, true, true, false, true, true, true, false, false, true, false, false, false, false] rfl rfl (any_of HT_.out (by kernel_rfl)) (fun _ _ _ h => h) (Or.inl ⟨by rfl, ?_⟩) ?_ ?_
    rotate_left
    · intro w'
      go_simp
      with_reducible rfl
    rotate_left
    · simp only [Act.put, List.setIfInBounds_toArray, List.set_cons_zero, List.set_cons_succ, i64_w, i32_w]
      rfl
    refine take_ (i := 3) (N := some 22) (v := ?_) (a' := ?_) #[true, true, true, true, true, true, true, false, false, true, false, false, false, false] rfl rfl (take_ofW HT_.out HW_.out (by kernel_rfl)) (fun _ _ _ h => h) (Or.inl ⟨by rfl, ?_⟩) hHeld ?_ ?_
    rotate_left
    · rintro w' ⟨s0, s1, s2, s3, s4, s5, s6⟩
      go_simp
      with_reducible rfl
    rotate_left
    · simp only [Act.put, List.setIfInBounds_toArray, List.set_cons_zero, List.set_cons_succ, i64_w, i32_w]
      rfl
    refine take_ (i := 7) (N := some 26) (v := ?_) (a' := ?_) #[true, true, true, true, true, true, true, true, false, true, false, false, false, false] rfl rfl (take_ofW HT_.out HW_.out (by kernel_rfl)) (fun _ _ _ h => h) (Or.inl ⟨by rfl, ?_⟩) hHeld ?_ ?_
    rotate_left
    · rintro w' ⟨s0, s1, s2, s3, s4, s5, s6⟩
      go_simp
      with_reducible rfl
    rotate_left
    · simp only [Act.put, List.setIfInBounds_toArray, List.set_cons_zero, List.set_cons_succ, i64_w, i32_w]
      rfl
    refine take_ (i := 10) (N := some 29) (v := ?_) (a' := ?_) #[true, true, true, true, true, true, true, true, false, true, true, false, false, false] rfl rfl (take_ofW HT_.out HW_.out (by kernel_rfl)) (fun _ _ _ h => h) (Or.inl ⟨by rfl, ?_⟩) hHeld ?_ ?_
    rotate_left
    · rintro w' ⟨s0, s1, s2, s3, s4, s5, s6⟩
      go_simp
      with_reducible rfl
    rotate_left
    · simp only [Act.put, List.setIfInBounds_toArray, List.set_cons_zero, List.set_cons_succ, i64_w, i32_w]
      rfl
    refine one_ (i := 8) (N := some 27) #[true, true, true, true, true, true, true, true, true, true, true, false, false, false] rfl rfl (one_of HT_.out (by kernel_rfl)) (by decide) (fun K hK => ?_)
    refine goes_ Try.func71 (by kernel_rfl) rfl #[.agg #[.int .i64 ((rd_T45 l0 x14_1).f1.f0), .int .i64 ((rd_T45 l0 x14_1).f1.f1)], .int .i64 (rd t477 x14_1)] (by rfl) rfl rfl (by (try simp only [List.map_toArray, List.map_cons, List.map_nil]); first | done | rfl) ?_
    with_reducible refine (impl_hoseLoss.calls ((rd_T45 l0 x14_1).f1.f0) ((rd_T45 l0 x14_1).f1.f1) (rd t477 x14_1) t486 _ A12.out).mono ?_
    rintro e w35 ⟨rfl, hb⟩
    have HS6_ := (hb.cell (World.block_lt_of_cell? _ _ (hHeld.2.2.2.2.2.2))).trans (hHeld.2.2.2.2.2.2)
    refine ⟨_, rfl, ?_⟩
    have n0_ := Aside0.mk (Kd.R_below (by (with_reducible repeat (first | apply Kd.R_alloc | apply Kd.R_drewN | apply Kd.R_drew)); exact HO_3.out) hb)
    have n1_ := Aside0.mk (Kd.R_below (by (with_reducible repeat (first | apply Kd.R_alloc | apply Kd.R_drewN | apply Kd.R_drew)); exact HO_4.out) hb)
    have n2_ := Aside0.mk (blk_below (g := gb484) (o := .cells #[.int .i64 ((rd_T45 l0 x14_1).f0), .int .i64 ((rd_T45 l0 x14_1).f1.f0), .int .i64 ((rd_T45 l0 x14_1).f1.f1), .int .i64 ((rd_T45 l0 x14_1).f2), .int .i64 ((rd_T45 l0 x14_1).f3), .int .i64 ((rd_T45 l0 x14_1).f4)] 45 (0, 0)) (by (with_reducible repeat (first | refine blk_drewN ?_ _ | refine blk_drew ?_ | refine blk_alloc ?_ _)); exact BK484.out) hb)
    have n3_ := Aside0.mk (below_step (by repeat (first | (with_reducible first | exact HB.out | apply bA_ | apply bN_ | apply b1_ | refine below_set ?_ GE484.out) | exact HB.out)) hb)
    clear HO_3
    clear HO_4
    clear BK484
    clear HB
    have HO_3 := n0_
    have HO_4 := n1_
    have BK484 := n2_
    have HB := n3_
    clear n0_ n1_ n2_ n3_
    (try clear hb)
    (try clear hb2)
    (try clear hk)
    (try clear hi)
    have p14 : 0 ≤ (x14_1 : Int) := of_decide_eq_true (by first|with_reducible assumption|assumption)
    have q14 : (x14_1 : Int) < ((x4_1.length : Int) : Int) := of_decide_eq_true (by first|with_reducible assumption|assumption)
    obtain ⟨go14, co14, eo14, gb14, gl14, cl14, HG14⟩ := Kd.R_form HO_4.out (by omega)
    (first | cases eo14 | (injection eo14 with ea_ en_ ec_; (first | subst ea_ | (injection ea_ with ea_; subst ea_)); subst ec_; clear en_))
    have GB14 := Aside0.mk gb14
    have GG14 := Aside0.mk HG14
    clear gb14 gl14 HG14
    obtain ⟨hx14_0, hf14_0⟩ := Kd.R_celln 0 HO_4.out (x14_1 : Int) p14 q14
    replace p14 := eq_true p14
    replace q14 := eq_true q14
    have HP36 := Kd.R_putn HO_4.out (x14_1 : Int) (wrap64 (t486 + ((rd_T45 l0 x14_1).f2)))
    rw [← Ny487.out] at HP36
    have HQ36 := Aside0.mk HP36
    clear HP36
    refine hK.out _ _ ⟨(blk_cell BK484.out 0).trans rfl, (blk_cell BK484.out 1).trans rfl, (blk_cell BK484.out 2).trans rfl, (blk_cell BK484.out 3).trans rfl, (blk_cell BK484.out 4).trans rfl, (blk_cell BK484.out 5).trans rfl, HS6_⟩ (fun hHeld => ?_)
    clear hK K
    refine norm_ (a' := ?_) ?_ ?_
    rotate_left
    · show Act.put _ (some 27) _ = _
      simp only [Act.put, List.setIfInBounds_toArray, List.set_cons_zero, List.set_cons_succ, i64_w, i32_w]
      rfl
    refine pure_ (i := 11) (N := some 30) (v := ?_) (a' := ?_) #[true, true, true, true, true, true, true, true, true, true, true, true, false, false] rfl rfl (any_of HT_.out (by kernel_rfl)) (fun _ _ _ h => h) (Or.inl ⟨by rfl, ?_⟩) ?_ ?_
    rotate_left
    · intro w'
      go_simp
      with_reducible rfl
    rotate_left
    · simp only [Act.put, List.setIfInBounds_toArray, List.set_cons_zero, List.set_cons_succ, i64_w, i32_w]
      rfl
    refine pure_ (i := 12) (N := some 31) (v := ?_) (a' := ?_) #[true, true, true, true, true, true, true, true, true, true, true, true, true, false] rfl rfl (any_of HT_.out (by kernel_rfl)) (fun _ _ _ h => h) (Or.inl ⟨by rfl, ?_⟩) ?_ ?_
    rotate_left
    · intro w'
      go_simp
      with_reducible rfl
    rotate_left
    · simp only [Act.put, List.setIfInBounds_toArray, List.set_cons_zero, List.set_cons_succ, i64_w, i32_w]
      rfl
    refine last_ (i := 13) (N := none) #[true, true, true, true, true, true, true, true, true, true, true, true, true, true] rfl rfl (one_of HT_.out (by kernel_rfl)) (by decide) (fun K hK => ?_)
    refine skip_ (w1 := ?_) (by rfl) rfl ?_ ?_
    rotate_left
    · go_simp
      rfl
    refine hK.out _ _ ?_
    clear hK K
    refine done_ (done_of HT_.out (by kernel_rfl)) ?_
    obtain ⟨hcz37_0, hcz37_1, hcz37_2, hcz37_3, hcz37_4, hcz37_5, hfz37_0, hfz37_1, hfz37_2, hfz37_3, hfz37_4, hfz37_5⟩ := blk6_ BK484.out
    have nz_ : Aside0 ((w35.setCell ⟨go14, (x14_1 : Int).toNat, none⟩ (.int .i64 (wrap64 (t486 + ((rd_T45 l0 x14_1).f2))))).heap[gb484]? = some (.cells #[.int .i64 ((rd_T45 l0 x14_1).f0), .int .i64 ((rd_T45 l0 x14_1).f1.f0), .int .i64 ((rd_T45 l0 x14_1).f1.f1), .int .i64 ((rd_T45 l0 x14_1).f2), .int .i64 ((rd_T45 l0 x14_1).f3), .int .i64 ((rd_T45 l0 x14_1).f4)] 45 (0, 0))) := ⟨by (with_reducible repeat (first | refine blk_drewN ?_ _ | refine blk_drew ?_ | refine blk_alloc ?_ _)); refine blk_far ?_ (by have h_ := Kd.R_ne HO_4.out BK484.out (by decide); intro e_; exact h_ (by rw [e_]; rfl)) _; (with_reducible repeat (first | refine blk_drewN ?_ _ | refine blk_drew ?_ | refine blk_alloc ?_ _)); exact BK484.out⟩
    have hcz37_0z : (w35.setCell ⟨go14, (x14_1 : Int).toNat, none⟩ (.int .i64 (wrap64 (t486 + ((rd_T45 l0 x14_1).f2))))).cell? ⟨gb484, 0, none⟩ = some (.int .i64 ((rd_T45 l0 x14_1).f0)) := (blk_cell nz_.out 0).trans rfl
    have hcz37_1z : (w35.setCell ⟨go14, (x14_1 : Int).toNat, none⟩ (.int .i64 (wrap64 (t486 + ((rd_T45 l0 x14_1).f2))))).cell? ⟨gb484, 1, none⟩ = some (.int .i64 ((rd_T45 l0 x14_1).f1.f0)) := (blk_cell nz_.out 1).trans rfl
    have hcz37_2z : (w35.setCell ⟨go14, (x14_1 : Int).toNat, none⟩ (.int .i64 (wrap64 (t486 + ((rd_T45 l0 x14_1).f2))))).cell? ⟨gb484, 2, none⟩ = some (.int .i64 ((rd_T45 l0 x14_1).f1.f1)) := (blk_cell nz_.out 2).trans rfl
    have hcz37_3z : (w35.setCell ⟨go14, (x14_1 : Int).toNat, none⟩ (.int .i64 (wrap64 (t486 + ((rd_T45 l0 x14_1).f2))))).cell? ⟨gb484, 3, none⟩ = some (.int .i64 ((rd_T45 l0 x14_1).f2)) := (blk_cell nz_.out 3).trans rfl
    have hcz37_4z : (w35.setCell ⟨go14, (x14_1 : Int).toNat, none⟩ (.int .i64 (wrap64 (t486 + ((rd_T45 l0 x14_1).f2))))).cell? ⟨gb484, 4, none⟩ = some (.int .i64 ((rd_T45 l0 x14_1).f3)) := (blk_cell nz_.out 4).trans rfl
    have hcz37_5z : (w35.setCell ⟨go14, (x14_1 : Int).toNat, none⟩ (.int .i64 (wrap64 (t486 + ((rd_T45 l0 x14_1).f2))))).cell? ⟨gb484, 5, none⟩ = some (.int .i64 ((rd_T45 l0 x14_1).f4)) := (blk_cell nz_.out 5).trans rfl
    try go_wp2
    go_roundg k1
    case measure => have := HK1.out; omega
    case rel => exact ⟨(y487), (wrap64 (x14_1 + 1)), (by first | rfl | (simp; done) | (simp [*]; done)), H', ⟨by have := HK1.out; omega⟩, ⟨by (with_reducible repeat (first | apply Kd.R_alloc | apply Kd.R_drewN | apply Kd.R_drew)); exact Kd.R_mono (Kd.R_far (p := ⟨go14, (x14_1 : Int).toNat, none⟩) (Kd.R_mono HO_3.out (fun k_ hk => (⟨hk, fun e_ => hk (by rw [e_]; rfl)⟩ : _ ∧ k_ ≠ go14))) (fun _ hk => hk.2) (.int .i64 (wrap64 (t486 + ((rd_T45 l0 x14_1).f2))))) (fun _ hk => hk.1)⟩, ⟨by (with_reducible repeat (first | apply Kd.R_alloc | apply Kd.R_drewN | apply Kd.R_drew)); exact HQ36.out⟩, ⟨by repeat (first | (with_reducible first | exact HB.out | apply bA_ | apply bN_ | apply b1_ | refine below_set ?_ GB14.out | refine below_set ?_ GE484.out) | exact HB.out)⟩⟩
   rw [if_pos c15] at H
   have c15b0 : decide (0 ≤ ((rd_T45 l0 x14_1).f0)) = true := decide_eq_true c15
   clear c15
   by_cases c16 : 0 ≤ ((rd_T45 l0 x14_1).f0)
   case neg =>
    rw [if_neg c16] at H
    exact absurd H (by simp)
   rw [if_pos c16] at H
   have c16b0 : decide (0 ≤ ((rd_T45 l0 x14_1).f0)) = true := decide_eq_true c16
   clear c16
   by_cases c17 : ((rd_T45 l0 x14_1).f0) < (x4_1.length : Int)
   case neg =>
    rw [if_neg c17] at H
    exact absurd H (by simp)
   rw [if_pos c17] at H
   have c17b0 : decide (((rd_T45 l0 x14_1).f0) < (x4_1.length : Int)) = true := decide_eq_true c17
   clear c17
   obtain ⟨y490, hy490⟩ : ∃ y_ : List Int, y_ = (y487.set (x14_1 : Int).toNat (wrap64 ((rd y487 x14_1) + (rd y487 ((rd_T45 l0 x14_1).f0))))) := ⟨_, rfl⟩
   replace H : (impl_lossesTo.l0 k1 t477 y490 l0 (l0.length : Int) (wrap64 (x14_1 + 1))) = some r := by first | (rw [hy490]; with_reducible exact H) | (have H2_ := (Option.bind_some _ _).symm.trans H; rw [hy490]; with_reducible exact H2_) | (have H2_ := (Option.bind_some _ _).symm.trans H; with_reducible exact H2_) | with_reducible exact H | (rw [hy490]; exact H) | exact H
   have Ny490 := Aside0.mk hy490
   clear hy490
   have H' := Aside0.mk H
   clear H
   have p483 : 0 ≤ (x14_1 : Int) := of_decide_eq_true (by first|with_reducible assumption|assumption)
   have q483 : x14_1 < (l0.length : Int) := of_decide_eq_true (by first|with_reducible assumption|assumption)
   obtain ⟨ad483, e483, hx483_0, hx483_1, hx483_2, hx483_3, hx483_4, hx483_5⟩ := at_T45 HR0.out x14_1 p483 q483
   cases e483
   replace hx483_0 := cl_ HB.out hx483_0
   replace hx483_1 := cl_ HB.out hx483_1
   replace hx483_2 := cl_ HB.out hx483_2
   replace hx483_3 := cl_ HB.out hx483_3
   replace hx483_4 := cl_ HB.out hx483_4
   replace hx483_5 := cl_ HB.out hx483_5
   replace p483 := eq_true p483
   replace q483 := eq_true q483
   try go_wp2_with (first | ((with_reducible refine gate_dst (N := 6) rfl ?_); refine box_event ?hg (N := 6) ?hd (cs := #[.int .i64 0, .int .i64 0, .int .i64 0, .int .i64 0, .int .i64 0, .int .i64 0]) (t := 45) ?hr ?_; (case hd => rfl); (case hg => rfl); (case hr => first | (go_simp; done) | (go_simp; rfl)); intro gb484 hg w19 hbox hb; have n0_ := Aside0.mk (Kd.R_below (by (with_reducible repeat (first | apply Kd.R_alloc | apply Kd.R_drewN | apply Kd.R_drew)); exact HO_3.out) hb); have n1_ := Aside0.mk (Kd.R_below (by (with_reducible repeat (first | apply Kd.R_alloc | apply Kd.R_drewN | apply Kd.R_drew)); exact HO_4.out) hb); have n2_ := Aside0.mk (below_step (by repeat (first | (with_reducible first | exact HB.out | apply bA_ | apply bN_ | apply b1_) | exact HB.out)) hb); have n3_ := Aside0.mk (hbox); have n4_ := Aside0.mk ((by rw [hg]; exact (below_size (by repeat (first | (with_reducible first | exact HB.out | apply bA_ | apply bN_ | apply b1_) | exact HB.out))) : w.heap.size ≤ gb484)); have n5_ := n4_; clear HO_3; clear HO_4; clear HB; have HO_3 := n0_; have HO_4 := n1_; have HB := n2_; have BK484 := n3_; have GW484 := n4_; have GE484 := n5_; clear n0_ n1_ n2_ n3_ n4_ n5_; clear hb hbox hg; obtain ⟨hcz20_0, hcz20_1, hcz20_2, hcz20_3, hcz20_4, hcz20_5, hfz20_0, hfz20_1, hfz20_2, hfz20_3, hfz20_4, hfz20_5⟩ := blk6_ BK484.out))
   have n0_ : Aside0 (Kd.R (Kd.int .i64) 3 ((((((w19.setCell ⟨gb484, 0, none⟩ (.int .i64 ((rd_T45 l0 x14_1).f0))).setCell ⟨gb484, 1, none⟩ (.int .i64 ((rd_T45 l0 x14_1).f1.f0))).setCell ⟨gb484, 2, none⟩ (.int .i64 ((rd_T45 l0 x14_1).f1.f1))).setCell ⟨gb484, 3, none⟩ (.int .i64 ((rd_T45 l0 x14_1).f2))).setCell ⟨gb484, 4, none⟩ (.int .i64 ((rd_T45 l0 x14_1).f3))).setCell ⟨gb484, 5, none⟩ (.int .i64 ((rd_T45 l0 x14_1).f4))) w.heap.size (fun k_ => some k_ ≠ (v481 : Value).ownBlock) v478 t477) := ⟨by (with_reducible repeat (first | apply Kd.R_alloc | apply Kd.R_drewN | apply Kd.R_drew)); exact Kd.R_mono (Kd.R_far (p := ⟨gb484, 5, none⟩) (Kd.R_far (p := ⟨gb484, 4, none⟩) (Kd.R_far (p := ⟨gb484, 3, none⟩) (Kd.R_far (p := ⟨gb484, 2, none⟩) (Kd.R_far (p := ⟨gb484, 1, none⟩) (Kd.R_far (p := ⟨gb484, 0, none⟩) (Kd.R_types HO_3.out BK484.out (by decide)) (fun _ hk => hk.2) (.int .i64 ((rd_T45 l0 x14_1).f0))) (fun _ hk => hk.2) (.int .i64 ((rd_T45 l0 x14_1).f1.f0))) (fun _ hk => hk.2) (.int .i64 ((rd_T45 l0 x14_1).f1.f1))) (fun _ hk => hk.2) (.int .i64 ((rd_T45 l0 x14_1).f2))) (fun _ hk => hk.2) (.int .i64 ((rd_T45 l0 x14_1).f3))) (fun _ hk => hk.2) (.int .i64 ((rd_T45 l0 x14_1).f4))) (fun _ hk => hk.1)⟩
   have n1_ : Aside0 (Kd.R (Kd.int .i64) 3 ((((((w19.setCell ⟨gb484, 0, none⟩ (.int .i64 ((rd_T45 l0 x14_1).f0))).setCell ⟨gb484, 1, none⟩ (.int .i64 ((rd_T45 l0 x14_1).f1.f0))).setCell ⟨gb484, 2, none⟩ (.int .i64 ((rd_T45 l0 x14_1).f1.f1))).setCell ⟨gb484, 3, none⟩ (.int .i64 ((rd_T45 l0 x14_1).f2))).setCell ⟨gb484, 4, none⟩ (.int .i64 ((rd_T45 l0 x14_1).f3))).setCell ⟨gb484, 5, none⟩ (.int .i64 ((rd_T45 l0 x14_1).f4))) w.heap.size (fun k_ => some k_ ≠ (v478 : Value).ownBlock) v481 x4_1) := ⟨by (with_reducible repeat (first | apply Kd.R_alloc | apply Kd.R_drewN | apply Kd.R_drew)); exact Kd.R_mono (Kd.R_far (p := ⟨gb484, 5, none⟩) (Kd.R_far (p := ⟨gb484, 4, none⟩) (Kd.R_far (p := ⟨gb484, 3, none⟩) (Kd.R_far (p := ⟨gb484, 2, none⟩) (Kd.R_far (p := ⟨gb484, 1, none⟩) (Kd.R_far (p := ⟨gb484, 0, none⟩) (Kd.R_types HO_4.out BK484.out (by decide)) (fun _ hk => hk.2) (.int .i64 ((rd_T45 l0 x14_1).f0))) (fun _ hk => hk.2) (.int .i64 ((rd_T45 l0 x14_1).f1.f0))) (fun _ hk => hk.2) (.int .i64 ((rd_T45 l0 x14_1).f1.f1))) (fun _ hk => hk.2) (.int .i64 ((rd_T45 l0 x14_1).f2))) (fun _ hk => hk.2) (.int .i64 ((rd_T45 l0 x14_1).f3))) (fun _ hk => hk.2) (.int .i64 ((rd_T45 l0 x14_1).f4))) (fun _ hk => hk.1)⟩
   have n2_ : Aside0 (((((((w19.setCell ⟨gb484, 0, none⟩ (.int .i64 ((rd_T45 l0 x14_1).f0))).setCell ⟨gb484, 1, none⟩ (.int .i64 ((rd_T45 l0 x14_1).f1.f0))).setCell ⟨gb484, 2, none⟩ (.int .i64 ((rd_T45 l0 x14_1).f1.f1))).setCell ⟨gb484, 3, none⟩ (.int .i64 ((rd_T45 l0 x14_1).f2))).setCell ⟨gb484, 4, none⟩ (.int .i64 ((rd_T45 l0 x14_1).f3))).setCell ⟨gb484, 5, none⟩ (.int .i64 ((rd_T45 l0 x14_1).f4))).heap[gb484]? = some (.cells #[.int .i64 ((rd_T45 l0 x14_1).f0), .int .i64 ((rd_T45 l0 x14_1).f1.f0), .int .i64 ((rd_T45 l0 x14_1).f1.f1), .int .i64 ((rd_T45 l0 x14_1).f2), .int .i64 ((rd_T45 l0 x14_1).f3), .int .i64 ((rd_T45 l0 x14_1).f4)] 45 (0, 0))) := ⟨by (with_reducible repeat (first | refine blk_drewN ?_ _ | refine blk_drew ?_ | refine blk_alloc ?_ _)); refine blk_put (cs := #[.int .i64 ((rd_T45 l0 x14_1).f0), .int .i64 ((rd_T45 l0 x14_1).f1.f0), .int .i64 ((rd_T45 l0 x14_1).f1.f1), .int .i64 ((rd_T45 l0 x14_1).f2), .int .i64 ((rd_T45 l0 x14_1).f3), .int .i64 0]) ?_ 5 _ rfl; (with_reducible repeat (first | refine blk_drewN ?_ _ | refine blk_drew ?_ | refine blk_alloc ?_ _)); refine blk_put (cs := #[.int .i64 ((rd_T45 l0 x14_1).f0), .int .i64 ((rd_T45 l0 x14_1).f1.f0), .int .i64 ((rd_T45 l0 x14_1).f1.f1), .int .i64 ((rd_T45 l0 x14_1).f2), .int .i64 0, .int .i64 0]) ?_ 4 _ rfl; (with_reducible repeat (first | refine blk_drewN ?_ _ | refine blk_drew ?_ | refine blk_alloc ?_ _)); refine blk_put (cs := #[.int .i64 ((rd_T45 l0 x14_1).f0), .int .i64 ((rd_T45 l0 x14_1).f1.f0), .int .i64 ((rd_T45 l0 x14_1).f1.f1), .int .i64 0, .int .i64 0, .int .i64 0]) ?_ 3 _ rfl; (with_reducible repeat (first | refine blk_drewN ?_ _ | refine blk_drew ?_ | refine blk_alloc ?_ _)); refine blk_put (cs := #[.int .i64 ((rd_T45 l0 x14_1).f0), .int .i64 ((rd_T45 l0 x14_1).f1.f0), .int .i64 0, .int .i64 0, .int .i64 0, .int .i64 0]) ?_ 2 _ rfl; (with_reducible repeat (first | refine blk_drewN ?_ _ | refine blk_drew ?_ | refine blk_alloc ?_ _)); refine blk_put (cs := #[.int .i64 ((rd_T45 l0 x14_1).f0), .int .i64 0, .int .i64 0, .int .i64 0, .int .i64 0, .int .i64 0]) ?_ 1 _ rfl; (with_reducible repeat (first | refine blk_drewN ?_ _ | refine blk_drew ?_ | refine blk_alloc ?_ _)); refine blk_put (cs := #[.int .i64 0, .int .i64 0, .int .i64 0, .int .i64 0, .int .i64 0, .int .i64 0]) ?_ 0 _ rfl; (with_reducible repeat (first | refine blk_drewN ?_ _ | refine blk_drew ?_ | refine blk_alloc ?_ _)); exact BK484.out⟩
   have n3_ : Aside0 (Below w.heap.size w ((((((w19.setCell ⟨gb484, 0, none⟩ (.int .i64 ((rd_T45 l0 x14_1).f0))).setCell ⟨gb484, 1, none⟩ (.int .i64 ((rd_T45 l0 x14_1).f1.f0))).setCell ⟨gb484, 2, none⟩ (.int .i64 ((rd_T45 l0 x14_1).f1.f1))).setCell ⟨gb484, 3, none⟩ (.int .i64 ((rd_T45 l0 x14_1).f2))).setCell ⟨gb484, 4, none⟩ (.int .i64 ((rd_T45 l0 x14_1).f3))).setCell ⟨gb484, 5, none⟩ (.int .i64 ((rd_T45 l0 x14_1).f4)))) := ⟨by repeat (first | (with_reducible first | exact HB.out | apply bA_ | apply bN_ | apply b1_ | refine below_set ?_ GE484.out) | exact HB.out)⟩
   (try clear HO_3)
   (try clear HO_4)
   (try clear BK484)
   (try clear HB)
   generalize ((((((w19.setCell ⟨gb484, 0, none⟩ (.int .i64 ((rd_T45 l0 x14_1).f0))).setCell ⟨gb484, 1, none⟩ (.int .i64 ((rd_T45 l0 x14_1).f1.f0))).setCell ⟨gb484, 2, none⟩ (.int .i64 ((rd_T45 l0 x14_1).f1.f1))).setCell ⟨gb484, 3, none⟩ (.int .i64 ((rd_T45 l0 x14_1).f2))).setCell ⟨gb484, 4, none⟩ (.int .i64 ((rd_T45 l0 x14_1).f3))).setCell ⟨gb484, 5, none⟩ (.int .i64 ((rd_T45 l0 x14_1).f4))) = w21 at n0_ n1_ n2_ n3_ ⊢
   have HO_3 := n0_
   have HO_4 := n1_
   have BK484 := n2_
   have HB := n3_
   clear n0_ n1_ n2_ n3_
   have n0_ := Aside0.mk (Kd.R_drew HO_3.out)
   have n1_ := Aside0.mk (Kd.R_drew HO_4.out)
   have n2_ := Aside0.mk (blk_drew BK484.out)
   have n3_ := Aside0.mk (below_drew1 HB.out)
   clear HO_3
   clear HO_4
   clear BK484
   clear HB
   have HO_3 := n0_
   have HO_4 := n1_
   have BK484 := n2_
   have HB := n3_
   clear n0_ n1_ n2_ n3_
   obtain ⟨Ao23, co23, eo23⟩ := Kd.R_slice HO_3.out
   (first | subst eo23 | (injection eo23 with f1_ f2_ f3_; have f4_ := f1_.symm; have f5_ := f3_.symm; clear f1_ f2_ f3_; subst f4_; subst f5_))
   have p485 : 0 ≤ (x14_1 : Int) := of_decide_eq_true (by first|with_reducible assumption|assumption)
   have q485 : x14_1 < (t477.length : Int) := of_decide_eq_true (by first|with_reducible assumption|assumption)
   obtain ⟨ad485, e485, hx485_0⟩ := Kd.at_int (Kd.R_reads' HO_3.out).2.2 x14_1 p485 q485
   cases e485
   replace p485 := eq_true p485
   replace q485 := eq_true q485
   refine start_ (n := 14) (S := fun w' => w'.cell? ⟨gb484, 0, none⟩ = some (.int .i64 ((rd_T45 l0 x14_1).f0)) ∧ w'.cell? ⟨gb484, 1, none⟩ = some (.int .i64 ((rd_T45 l0 x14_1).f1.f0)) ∧ w'.cell? ⟨gb484, 2, none⟩ = some (.int .i64 ((rd_T45 l0 x14_1).f1.f1)) ∧ w'.cell? ⟨gb484, 3, none⟩ = some (.int .i64 ((rd_T45 l0 x14_1).f2)) ∧ w'.cell? ⟨gb484, 4, none⟩ = some (.int .i64 ((rd_T45 l0 x14_1).f3)) ∧ w'.cell? ⟨gb484, 5, none⟩ = some (.int .i64 ((rd_T45 l0 x14_1).f4)) ∧ w'.cell? (ad485.add (x14_1).toNat) = some (.int .i64 (rd t477 x14_1))) (ds := [13]) #[false, false, false, false, false, false, false, false, false, false, false, false, false, false] (by kernel_rfl) rfl rfl ⟨(blk_cell BK484.out 0).trans rfl, (blk_cell BK484.out 1).trans rfl, (blk_cell BK484.out 2).trans rfl, (blk_cell BK484.out 3).trans rfl, (blk_cell BK484.out 4).trans rfl, (blk_cell BK484.out 5).trans rfl, hx485_0⟩ (fun hHeld => ?_); refine with_tabW impl_lossesTo.tab6 impl_lossesTo.bits6 (fun HT_ HW_ => ?_)
   generalize w21.drew = w22 at HO_3 HO_4 BK484 HB hx485_0 hHeld ⊢
   refine pure_ (i := 0) (N := some 19) (v := ?_) (a' := ?_) #[true, false, false, false, false, false, false, false, false, false, false, false, false, false] rfl rfl (any_of HT_.out (by kernel_rfl)) (fun _ _ _ h => h) (Or.inl ⟨by rfl, ?_⟩) ?_ ?_
   rotate_left
   · intro w'
     go_simp
     with_reducible rfl
   rotate_left
   · simp only [Act.put, List.setIfInBounds_toArray, List.set_cons_zero, List.set_cons_succ, i64_w, i32_w]
     rfl
   refine pure_ (i := 1) (N := some 20) (v := ?_) (a' := ?_) #[true, true, false, false, false, false, false, false, false, false, false, false, false, false] rfl rfl (any_of HT_.out (by kernel_rfl)) (fun _ _ _ h => h) (Or.inl ⟨by rfl, ?_⟩) ?_ ?_
   rotate_left
   · intro w'
     go_simp
     with_reducible rfl
   rotate_left
   · simp only [Act.put, List.setIfInBounds_toArray, List.set_cons_zero, List.set_cons_succ, i64_w, i32_w]
     rfl
   refine pure_ (i := 2) (N := some 21) (v := ?_) (a' := ?_) #[true, true, true, false, false, false, false, false, false, false, false, false, false, false] rfl rfl (any_of HT_.out (by kernel_rfl)) (fun _ _ _ h => h) (Or.inl ⟨by rfl, ?_⟩) ?_ ?_
   rotate_left
   · intro w'
     go_simp
     with_reducible rfl
   rotate_left
   · simp only [Act.put, List.setIfInBounds_toArray, List.set_cons_zero, List.set_cons_succ, i64_w, i32_w]
     rfl
   refine pure_ (i := 4) (N := some 23) (v := ?_) (a' := ?_) #[true, true, true, false, true, false, false, false, false, false, false, false, false, false] rfl rfl (any_of HT_.out (by kernel_rfl)) (fun _ _ _ h => h) (Or.inl ⟨by rfl, ?_⟩) ?_ ?_
   rotate_left
   · intro w'
     go_simp
     with_reducible rfl
   rotate_left
   · simp only [Act.put, List.setIfInBounds_toArray, List.set_cons_zero, List.set_cons_succ, i64_w, i32_w]
     rfl
   refine pure_ (i := 5) (N := some 24) (v := ?_) (a' := ?_) #[true, true, true, false, true, true, false, false, false, false, false, false, false, false] rfl rfl (any_of HT_.out (by kernel_rfl)) (fun _ _ _ h => h) (Or.inl ⟨by rfl, ?_⟩) ?_ ?_
   rotate_left
   · intro w'
     go_simp
     with_reducible rfl
   rotate_left
   · simp only [Act.put, List.setIfInBounds_toArray, List.set_cons_zero, List.set_cons_succ, i64_w, i32_w]
     rfl
   refine pure_ (i := 6) (N := some 25) (v := ?_) (a' := ?_) #[true, true, true, false, true, true, true, false, false, false, false, false, false, false] rfl rfl (any_of HT_.out (by kernel_rfl)) (fun _ _ _ h => h) (Or.inl ⟨by rfl, ?_⟩) ?_ ?_
   rotate_left
   · intro w'
     go_simp
     with_reducible rfl
   rotate_left
   · simp only [Act.put, List.setIfInBounds_toArray, List.set_cons_zero, List.set_cons_succ, i64_w, i32_w]
     rfl
   refine pure_ (i := 9) (N := some 28) (v := ?_) (a' := ?_) #[true, true, true, false, true, true, true, false, false, true, false, false, false, false] rfl rfl (any_of HT_.out (by kernel_rfl)) (fun _ _ _ h => h) (Or.inl ⟨by rfl, ?_⟩) ?_ ?_
   rotate_left
   · intro w'
     go_simp
     with_reducible rfl
   rotate_left
   · simp only [Act.put, List.setIfInBounds_toArray, List.set_cons_zero, List.set_cons_succ, i64_w, i32_w]
     rfl
   refine take_ (i := 3) (N := some 22) (v := ?_) (a' := ?_) #[true, true, true, true, true, true, true, false, false, true, false, false, false, false] rfl rfl (take_ofW HT_.out HW_.out (by kernel_rfl)) (fun _ _ _ h => h) (Or.inl ⟨by rfl, ?_⟩) hHeld ?_ ?_
   rotate_left
   · rintro w' ⟨s0, s1, s2, s3, s4, s5, s6⟩
     go_simp
     with_reducible rfl
   rotate_left
   · simp only [Act.put, List.setIfInBounds_toArray, List.set_cons_zero, List.set_cons_succ, i64_w, i32_w]
     rfl
   refine take_ (i := 7) (N := some 26) (v := ?_) (a' := ?_) #[true, true, true, true, true, true, true, true, false, true, false, false, false, false] rfl rfl (take_ofW HT_.out HW_.out (by kernel_rfl)) (fun _ _ _ h => h) (Or.inl ⟨by rfl, ?_⟩) hHeld ?_ ?_
   rotate_left
   · rintro w' ⟨s0, s1, s2, s3, s4, s5, s6⟩
     go_simp
     with_reducible rfl
   rotate_left
   · simp only [Act.put, List.setIfInBounds_toArray, List.set_cons_zero, List.set_cons_succ, i64_w, i32_w]
     rfl
   refine take_ (i := 10) (N := some 29) (v := ?_) (a' := ?_) #[true, true, true, true, true, true, true, true, false, true, true, false, false, false] rfl rfl (take_ofW HT_.out HW_.out (by kernel_rfl)) (fun _ _ _ h => h) (Or.inl ⟨by rfl, ?_⟩) hHeld ?_ ?_
   rotate_left
   · rintro w' ⟨s0, s1, s2, s3, s4, s5, s6⟩
     go_simp
     with_reducible rfl
   rotate_left
   · simp only [Act.put, List.setIfInBounds_toArray, List.set_cons_zero, List.set_cons_succ, i64_w, i32_w]
     rfl
   refine one_ (i := 8) (N := some 27) #[true, true, true, true, true, true, true, true, true, true, true, false, false, false] rfl rfl (one_of HT_.out (by kernel_rfl)) (by decide) (fun K hK => ?_)
   refine goes_ Try.func71 (by kernel_rfl) rfl #[.agg #[.int .i64 ((rd_T45 l0 x14_1).f1.f0), .int .i64 ((rd_T45 l0 x14_1).f1.f1)], .int .i64 (rd t477 x14_1)] (by rfl) rfl rfl (by (try simp only [List.map_toArray, List.map_cons, List.map_nil]); first | done | rfl) ?_
   with_reducible refine (impl_hoseLoss.calls ((rd_T45 l0 x14_1).f1.f0) ((rd_T45 l0 x14_1).f1.f1) (rd t477 x14_1) t486 _ A12.out).mono ?_
   rintro e w24 ⟨rfl, hb⟩
   have HS6_ := (hb.cell (World.block_lt_of_cell? _ _ (hHeld.2.2.2.2.2.2))).trans (hHeld.2.2.2.2.2.2)
   refine ⟨_, rfl, ?_⟩
   have n0_ := Aside0.mk (Kd.R_below (by (with_reducible repeat (first | apply Kd.R_alloc | apply Kd.R_drewN | apply Kd.R_drew)); exact HO_3.out) hb)
   have n1_ := Aside0.mk (Kd.R_below (by (with_reducible repeat (first | apply Kd.R_alloc | apply Kd.R_drewN | apply Kd.R_drew)); exact HO_4.out) hb)
   have n2_ := Aside0.mk (blk_below (g := gb484) (o := .cells #[.int .i64 ((rd_T45 l0 x14_1).f0), .int .i64 ((rd_T45 l0 x14_1).f1.f0), .int .i64 ((rd_T45 l0 x14_1).f1.f1), .int .i64 ((rd_T45 l0 x14_1).f2), .int .i64 ((rd_T45 l0 x14_1).f3), .int .i64 ((rd_T45 l0 x14_1).f4)] 45 (0, 0)) (by (with_reducible repeat (first | refine blk_drewN ?_ _ | refine blk_drew ?_ | refine blk_alloc ?_ _)); exact BK484.out) hb)
   have n3_ := Aside0.mk (below_step (by repeat (first | (with_reducible first | exact HB.out | apply bA_ | apply bN_ | apply b1_ | refine below_set ?_ GE484.out) | exact HB.out)) hb)
   clear HO_3
   clear HO_4
   clear BK484
   clear HB
   have HO_3 := n0_
   have HO_4 := n1_
   have BK484 := n2_
   have HB := n3_
   clear n0_ n1_ n2_ n3_
   (try clear hb)
   (try clear hb2)
   (try clear hk)
   (try clear hi)
   have p14 : 0 ≤ (x14_1 : Int) := of_decide_eq_true (by first|with_reducible assumption|assumption)
   have q14 : (x14_1 : Int) < ((x4_1.length : Int) : Int) := of_decide_eq_true (by first|with_reducible assumption|assumption)
   obtain ⟨go14, co14, eo14, gb14, gl14, cl14, HG14⟩ := Kd.R_form HO_4.out (by omega)
   (first | cases eo14 | (injection eo14 with ea_ en_ ec_; (first | subst ea_ | (injection ea_ with ea_; subst ea_)); subst ec_; clear en_))
   have GB14 := Aside0.mk gb14
   have GG14 := Aside0.mk HG14
   clear gb14 gl14 HG14
   obtain ⟨hx14_0, hf14_0⟩ := Kd.R_celln 0 HO_4.out (x14_1 : Int) p14 q14
   replace p14 := eq_true p14
   replace q14 := eq_true q14
   have HP25 := Kd.R_putn HO_4.out (x14_1 : Int) (wrap64 (t486 + ((rd_T45 l0 x14_1).f2)))
   rw [← Ny487.out] at HP25
   have HQ25 := Aside0.mk HP25
   clear HP25
   refine hK.out _ _ ⟨(blk_cell BK484.out 0).trans rfl, (blk_cell BK484.out 1).trans rfl, (blk_cell BK484.out 2).trans rfl, (blk_cell BK484.out 3).trans rfl, (blk_cell BK484.out 4).trans rfl, (blk_cell BK484.out 5).trans rfl, HS6_⟩ (fun hHeld => ?_)
   clear hK K
   refine norm_ (a' := ?_) ?_ ?_
   rotate_left
   · show Act.put _ (some 27) _ = _
     simp only [Act.put, List.setIfInBounds_toArray, List.set_cons_zero, List.set_cons_succ, i64_w, i32_w]
     rfl
   refine pure_ (i := 11) (N := some 30) (v := ?_) (a' := ?_) #[true, true, true, true, true, true, true, true, true, true, true, true, false, false] rfl rfl (any_of HT_.out (by kernel_rfl)) (fun _ _ _ h => h) (Or.inl ⟨by rfl, ?_⟩) ?_ ?_
   rotate_left
   · intro w'
     go_simp
     with_reducible rfl
   rotate_left
   · simp only [Act.put, List.setIfInBounds_toArray, List.set_cons_zero, List.set_cons_succ, i64_w, i32_w]
     rfl
   refine pure_ (i := 12) (N := some 31) (v := ?_) (a' := ?_) #[true, true, true, true, true, true, true, true, true, true, true, true, true, false] rfl rfl (any_of HT_.out (by kernel_rfl)) (fun _ _ _ h => h) (Or.inl ⟨by rfl, ?_⟩) ?_ ?_
   rotate_left
   · intro w'
     go_simp
     with_reducible rfl
   rotate_left
   · simp only [Act.put, List.setIfInBounds_toArray, List.set_cons_zero, List.set_cons_succ, i64_w, i32_w]
     rfl
   refine last_ (i := 13) (N := none) #[true, true, true, true, true, true, true, true, true, true, true, true, true, true] rfl rfl (one_of HT_.out (by kernel_rfl)) (by decide) (fun K hK => ?_)
   refine skip_ (w1 := ?_) (by rfl) rfl ?_ ?_
   rotate_left
   · go_simp
     rfl
   refine hK.out _ _ ?_
   clear hK K
   refine done_ (done_of HT_.out (by kernel_rfl)) ?_
   obtain ⟨hcz26_0, hcz26_1, hcz26_2, hcz26_3, hcz26_4, hcz26_5, hfz26_0, hfz26_1, hfz26_2, hfz26_3, hfz26_4, hfz26_5⟩ := blk6_ BK484.out
   have n0_ : Aside0 (Kd.R (Kd.int .i64) 3 (w24.setCell ⟨go14, (x14_1 : Int).toNat, none⟩ (.int .i64 (wrap64 (t486 + ((rd_T45 l0 x14_1).f2))))) w.heap.size (fun k_ => some k_ ≠ (.slice (some ⟨go14, 0, none⟩) x4_1.length co14 : Value).ownBlock) (.slice (some ad485) t477.length co23) t477) := ⟨by (with_reducible repeat (first | apply Kd.R_alloc | apply Kd.R_drewN | apply Kd.R_drew)); exact Kd.R_mono (Kd.R_far (p := ⟨go14, (x14_1 : Int).toNat, none⟩) (Kd.R_mono HO_3.out (fun k_ hk => (⟨hk, fun e_ => hk (by rw [e_]; rfl)⟩ : _ ∧ k_ ≠ go14))) (fun _ hk => hk.2) (.int .i64 (wrap64 (t486 + ((rd_T45 l0 x14_1).f2))))) (fun _ hk => hk.1)⟩
   have n1_ : Aside0 (Kd.R (Kd.int .i64) 3 (w24.setCell ⟨go14, (x14_1 : Int).toNat, none⟩ (.int .i64 (wrap64 (t486 + ((rd_T45 l0 x14_1).f2))))) w.heap.size (fun k_ => some k_ ≠ (.slice (some ad485) t477.length co23 : Value).ownBlock) (.slice (some ⟨go14, 0, none⟩) x4_1.length co14) y487) := ⟨by (with_reducible repeat (first | apply Kd.R_alloc | apply Kd.R_drewN | apply Kd.R_drew)); exact HQ25.out⟩
   have n2_ : Aside0 ((w24.setCell ⟨go14, (x14_1 : Int).toNat, none⟩ (.int .i64 (wrap64 (t486 + ((rd_T45 l0 x14_1).f2))))).heap[gb484]? = some (.cells #[.int .i64 ((rd_T45 l0 x14_1).f0), .int .i64 ((rd_T45 l0 x14_1).f1.f0), .int .i64 ((rd_T45 l0 x14_1).f1.f1), .int .i64 ((rd_T45 l0 x14_1).f2), .int .i64 ((rd_T45 l0 x14_1).f3), .int .i64 ((rd_T45 l0 x14_1).f4)] 45 (0, 0))) := ⟨by (with_reducible repeat (first | refine blk_drewN ?_ _ | refine blk_drew ?_ | refine blk_alloc ?_ _)); refine blk_far ?_ (by have h_ := Kd.R_ne HO_4.out BK484.out (by decide); intro e_; exact h_ (by rw [e_]; rfl)) _; (with_reducible repeat (first | refine blk_drewN ?_ _ | refine blk_drew ?_ | refine blk_alloc ?_ _)); exact BK484.out⟩
   have n3_ : Aside0 (Below w.heap.size w (w24.setCell ⟨go14, (x14_1 : Int).toNat, none⟩ (.int .i64 (wrap64 (t486 + ((rd_T45 l0 x14_1).f2)))))) := ⟨by repeat (first | (with_reducible first | exact HB.out | apply bA_ | apply bN_ | apply b1_ | refine below_set ?_ GB14.out | refine below_set ?_ GE484.out) | exact HB.out)⟩
   (try clear HO_3)
   (try clear HO_4)
   (try clear BK484)
   (try clear HB)
   generalize (w24.setCell ⟨go14, (x14_1 : Int).toNat, none⟩ (.int .i64 (wrap64 (t486 + ((rd_T45 l0 x14_1).f2))))) = w27 at n0_ n1_ n2_ n3_ ⊢
   have HO_3 := n0_
   have HO_4 := n1_
   have BK484 := n2_
   have HB := n3_
   clear n0_ n1_ n2_ n3_
   have hcz26_0z : w27.cell? ⟨gb484, 0, none⟩ = some (.int .i64 ((rd_T45 l0 x14_1).f0)) := (blk_cell BK484.out 0).trans rfl
   have hcz26_1z : w27.cell? ⟨gb484, 1, none⟩ = some (.int .i64 ((rd_T45 l0 x14_1).f1.f0)) := (blk_cell BK484.out 1).trans rfl
   have hcz26_2z : w27.cell? ⟨gb484, 2, none⟩ = some (.int .i64 ((rd_T45 l0 x14_1).f1.f1)) := (blk_cell BK484.out 2).trans rfl
   have hcz26_3z : w27.cell? ⟨gb484, 3, none⟩ = some (.int .i64 ((rd_T45 l0 x14_1).f2)) := (blk_cell BK484.out 3).trans rfl
   have hcz26_4z : w27.cell? ⟨gb484, 4, none⟩ = some (.int .i64 ((rd_T45 l0 x14_1).f3)) := (blk_cell BK484.out 4).trans rfl
   have hcz26_5z : w27.cell? ⟨gb484, 5, none⟩ = some (.int .i64 ((rd_T45 l0 x14_1).f4)) := (blk_cell BK484.out 5).trans rfl
   try go_wp2
   have n0_ := Aside0.mk (Kd.R_drew HO_3.out)
   have n1_ := Aside0.mk (Kd.R_drew HO_4.out)
   have n2_ := Aside0.mk (blk_drew BK484.out)
   have n3_ := Aside0.mk (below_drew1 HB.out)
   clear HO_3
   clear HO_4
   clear BK484
   clear HB
   have HO_3 := n0_
   have HO_4 := n1_
   have BK484 := n2_
   have HB := n3_
   clear n0_ n1_ n2_ n3_
   have p488 : 0 ≤ (x14_1 : Int) := of_decide_eq_true (by first|with_reducible assumption|assumption)
   have q488 : x14_1 < (y487.length : Int) := (by have h_ : (x14_1 : Int) < ((x4_1.length : Int) : Int) := of_decide_eq_true (by first|with_reducible assumption|assumption); first | (have e_ := (Kd.R_reads' HO_4.out).1; omega) | simpa only [Ny487.out, List.length_set] using h_)
   have ql488 : ((x14_1 : Int) < ((x4_1.length : Int) : Int)) = True := eq_true (of_decide_eq_true (by first|with_reducible assumption|assumption))
   obtain ⟨ad488, e488, hx488_0⟩ := Kd.at_int (Kd.R_reads' HO_4.out).2.2 x14_1 p488 q488
   obtain rfl : (⟨go14, 0, none⟩ : Addr) = ad488 := (by injection e488)
   (first | simp only [add_plain] at hx488_0 | simp only [add_at] at hx488_0 | simp only [Addr.add, Nat.zero_add] at hx488_0 | skip)
   replace p488 := eq_true p488
   replace q488 := eq_true q488
   have p489 : 0 ≤ (((rd_T45 l0 x14_1).f0) : Int) := of_decide_eq_true (by first|with_reducible assumption|assumption)
   have q489 : ((rd_T45 l0 x14_1).f0) < (y487.length : Int) := (by have h_ : (((rd_T45 l0 x14_1).f0) : Int) < ((x4_1.length : Int) : Int) := of_decide_eq_true (by first|with_reducible assumption|assumption); first | (have e_ := (Kd.R_reads' HO_4.out).1; omega) | simpa only [Ny487.out, List.length_set] using h_)
   have ql489 : ((((rd_T45 l0 x14_1).f0) : Int) < ((x4_1.length : Int) : Int)) = True := eq_true (of_decide_eq_true (by first|with_reducible assumption|assumption))
   obtain ⟨ad489, e489, hx489_0⟩ := Kd.at_int (Kd.R_reads' HO_4.out).2.2 ((rd_T45 l0 x14_1).f0) p489 q489
   obtain rfl : (⟨go14, 0, none⟩ : Addr) = ad489 := (by injection e489)
   (first | simp only [add_plain] at hx489_0 | simp only [add_at] at hx489_0 | simp only [Addr.add, Nat.zero_add] at hx489_0 | skip)
   replace p489 := eq_true p489
   replace q489 := eq_true q489
   have p18 : 0 ≤ (x14_1 : Int) := of_decide_eq_true (by first|with_reducible assumption|assumption)
   have q18 : (x14_1 : Int) < ((x4_1.length : Int) : Int) := of_decide_eq_true (by first|with_reducible assumption|assumption)
   obtain ⟨hx18_0, hf18_0⟩ := Kd.R_celln 0 HO_4.out (x14_1 : Int) p18 q18
   replace p18 := eq_true p18
   replace q18 := eq_true q18
   have HP29 := Kd.R_putn HO_4.out (x14_1 : Int) (wrap64 ((rd y487 x14_1) + (rd y487 ((rd_T45 l0 x14_1).f0))))
   rw [← Ny490.out] at HP29
   have HQ29 := Aside0.mk HP29
   clear HP29
   refine start_ (n := 12) (S := fun w' => w'.cell? ⟨gb484, 0, none⟩ = some (.int .i64 ((rd_T45 l0 x14_1).f0)) ∧ w'.cell? ⟨gb484, 1, none⟩ = some (.int .i64 ((rd_T45 l0 x14_1).f1.f0)) ∧ w'.cell? ⟨gb484, 2, none⟩ = some (.int .i64 ((rd_T45 l0 x14_1).f1.f1)) ∧ w'.cell? ⟨gb484, 3, none⟩ = some (.int .i64 ((rd_T45 l0 x14_1).f2)) ∧ w'.cell? ⟨gb484, 4, none⟩ = some (.int .i64 ((rd_T45 l0 x14_1).f3)) ∧ w'.cell? ⟨gb484, 5, none⟩ = some (.int .i64 ((rd_T45 l0 x14_1).f4)) ∧ w'.cell? ⟨go14, (x14_1).toNat, none⟩ = some (.int .i64 (rd y487 x14_1)) ∧ w'.cell? ⟨go14, (((rd_T45 l0 x14_1).f0)).toNat, none⟩ = some (.int .i64 (rd y487 ((rd_T45 l0 x14_1).f0)))) (ds := [11]) #[false, false, false, false, false, false, false, false, false, false, false, false] (by kernel_rfl) rfl rfl ⟨(blk_cell BK484.out 0).trans rfl, (blk_cell BK484.out 1).trans rfl, (blk_cell BK484.out 2).trans rfl, (blk_cell BK484.out 3).trans rfl, (blk_cell BK484.out 4).trans rfl, (blk_cell BK484.out 5).trans rfl, hx488_0, hx489_0⟩ (fun hHeld => ?_); refine with_tabW impl_lossesTo.tab8 impl_lossesTo.bits8 (fun HT_ HW_ => ?_)
   generalize w27.drew = w28 at HO_3 HO_4 BK484 HB HQ25 HQ29 hf18_0 hx18_0 hx488_0 hx489_0 hHeld ⊢
   refine pure_ (i := 0) (N := some 35) (v := ?_) (a' := ?_) #[true, false, false, false, false, false, false, false, false, false, false, false] rfl rfl (any_of HT_.out (by kernel_rfl)) (fun _ _ _ h => h) (Or.inl ⟨by rfl, ?_⟩) ?_ ?_
   rotate_left
   · intro w'
     go_simp
     with_reducible rfl
   rotate_left
   · simp only [Act.put, List.setIfInBounds_toArray, List.set_cons_zero, List.set_cons_succ, i64_w, i32_w]
     rfl
   refine pure_ (i := 1) (N := some 36) (v := ?_) (a' := ?_) #[true, true, false, false, false, false, false, false, false, false, false, false] rfl rfl (any_of HT_.out (by kernel_rfl)) (fun _ _ _ h => h) (Or.inl ⟨by rfl, ?_⟩) ?_ ?_
   rotate_left
   · intro w'
     go_simp
     with_reducible rfl
   rotate_left
   · simp only [Act.put, List.setIfInBounds_toArray, List.set_cons_zero, List.set_cons_succ, i64_w, i32_w]
     rfl
   refine pure_ (i := 2) (N := some 37) (v := ?_) (a' := ?_) #[true, true, true, false, false, false, false, false, false, false, false, false] rfl rfl (any_of HT_.out (by kernel_rfl)) (fun _ _ _ h => h) (Or.inl ⟨by rfl, ?_⟩) ?_ ?_
   rotate_left
   · intro w'
     go_simp
     with_reducible rfl
   rotate_left
   · simp only [Act.put, List.setIfInBounds_toArray, List.set_cons_zero, List.set_cons_succ, i64_w, i32_w]
     rfl
   refine pure_ (i := 4) (N := some 39) (v := ?_) (a' := ?_) #[true, true, true, false, true, false, false, false, false, false, false, false] rfl rfl (any_of HT_.out (by kernel_rfl)) (fun _ _ _ h => h) (Or.inl ⟨by rfl, ?_⟩) ?_ ?_
   rotate_left
   · intro w'
     go_simp
     with_reducible rfl
   rotate_left
   · simp only [Act.put, List.setIfInBounds_toArray, List.set_cons_zero, List.set_cons_succ, i64_w, i32_w]
     rfl
   refine pure_ (i := 5) (N := some 40) (v := ?_) (a' := ?_) #[true, true, true, false, true, true, false, false, false, false, false, false] rfl rfl (any_of HT_.out (by kernel_rfl)) (fun _ _ _ h => h) (Or.inl ⟨by rfl, ?_⟩) ?_ ?_
   rotate_left
   · intro w'
     go_simp
     with_reducible rfl
   rotate_left
   · simp only [Act.put, List.setIfInBounds_toArray, List.set_cons_zero, List.set_cons_succ, i64_w, i32_w]
     rfl
   refine take_ (i := 3) (N := some 38) (v := ?_) (a' := ?_) #[true, true, true, true, true, true, false, false, false, false, false, false] rfl rfl (take_ofW HT_.out HW_.out (by kernel_rfl)) (fun _ _ _ h => h) (Or.inl ⟨by rfl, ?_⟩) hHeld ?_ ?_
   rotate_left
   · rintro w' ⟨s0, s1, s2, s3, s4, s5, s6, s7⟩
     go_simp
     with_reducible rfl
   rotate_left
   · simp only [Act.put, List.setIfInBounds_toArray, List.set_cons_zero, List.set_cons_succ, i64_w, i32_w]
     rfl
   refine take_ (i := 6) (N := some 41) (v := ?_) (a' := ?_) #[true, true, true, true, true, true, true, false, false, false, false, false] rfl rfl (take_ofW HT_.out HW_.out (by kernel_rfl)) (fun _ _ _ h => h) (Or.inl ⟨by rfl, ?_⟩) hHeld ?_ ?_
   rotate_left
   · rintro w' ⟨s0, s1, s2, s3, s4, s5, s6, s7⟩
     go_simp
     with_reducible rfl
   rotate_left
   · simp only [Act.put, List.setIfInBounds_toArray, List.set_cons_zero, List.set_cons_succ, i64_w, i32_w]
     rfl
   refine pure_ (i := 7) (N := some 42) (v := ?_) (a' := ?_) #[true, true, true, true, true, true, true, true, false, false, false, false] rfl rfl (any_of HT_.out (by kernel_rfl)) (fun _ _ _ h => h) (Or.inl ⟨by rfl, ?_⟩) ?_ ?_
   rotate_left
   · intro w'
     go_simp
     with_reducible rfl
   rotate_left
   · simp only [Act.put, List.setIfInBounds_toArray, List.set_cons_zero, List.set_cons_succ, i64_w, i32_w]
     rfl
   refine take_ (i := 8) (N := some 43) (v := ?_) (a' := ?_) #[true, true, true, true, true, true, true, true, true, false, false, false] rfl rfl (take_ofW HT_.out HW_.out (by kernel_rfl)) (fun _ _ _ h => h) (Or.inl ⟨by rfl, ?_⟩) hHeld ?_ ?_
   rotate_left
   · rintro w' ⟨s0, s1, s2, s3, s4, s5, s6, s7⟩
     go_simp
     with_reducible rfl
   rotate_left
   · simp only [Act.put, List.setIfInBounds_toArray, List.set_cons_zero, List.set_cons_succ, i64_w, i32_w]
     rfl
   refine pure_ (i := 9) (N := some 44) (v := ?_) (a' := ?_) #[true, true, true, true, true, true, true, true, true, true, false, false] rfl rfl (any_of HT_.out (by kernel_rfl)) (fun _ _ _ h => h) (Or.inl ⟨by rfl, ?_⟩) ?_ ?_
   rotate_left
   · intro w'
     go_simp
     with_reducible rfl
   rotate_left
   · simp only [Act.put, List.setIfInBounds_toArray, List.set_cons_zero, List.set_cons_succ, i64_w, i32_w]
     rfl
   refine pure_ (i := 10) (N := some 45) (v := ?_) (a' := ?_) #[true, true, true, true, true, true, true, true, true, true, true, false] rfl rfl (any_of HT_.out (by kernel_rfl)) (fun _ _ _ h => h) (Or.inl ⟨by rfl, ?_⟩) ?_ ?_
   rotate_left
   · intro w'
     go_simp
     with_reducible rfl
   rotate_left
   · simp only [Act.put, List.setIfInBounds_toArray, List.set_cons_zero, List.set_cons_succ, i64_w, i32_w]
     rfl
   refine last_ (i := 11) (N := none) #[true, true, true, true, true, true, true, true, true, true, true, true] rfl rfl (one_of HT_.out (by kernel_rfl)) (by decide) (fun K hK => ?_)
   refine skip_ (w1 := ?_) (by rfl) rfl ?_ ?_
   rotate_left
   · go_simp
     rfl
   refine hK.out _ _ ?_
   clear hK K
   refine done_ (done_of HT_.out (by kernel_rfl)) ?_
   try go_wp2
   go_roundg k1
   case measure => have := HK1.out; omega
   case rel => exact ⟨(y490), (wrap64 (x14_1 + 1)), (by first | rfl | (simp; done) | (simp [*]; done)), H', ⟨by have := HK1.out; omega⟩, ⟨by (with_reducible repeat (first | apply Kd.R_alloc | apply Kd.R_drewN | apply Kd.R_drew)); exact Kd.R_mono (Kd.R_far (p := ⟨go14, (x14_1 : Int).toNat, none⟩) (Kd.R_mono HO_3.out (fun k_ hk => (⟨hk, fun e_ => hk (by rw [e_]; rfl)⟩ : _ ∧ k_ ≠ go14))) (fun _ hk => hk.2) (.int .i64 (wrap64 ((rd y487 x14_1) + (rd y487 ((rd_T45 l0 x14_1).f0)))))) (fun _ hk => hk.1)⟩, ⟨by (with_reducible repeat (first | apply Kd.R_alloc | apply Kd.R_drewN | apply Kd.R_drew)); exact HQ29.out⟩, ⟨by repeat (first | (with_reducible first | exact HB.out | apply bA_ | apply bN_ | apply b1_ | refine below_set ?_ GB14.out | refine below_set ?_ GE484.out) | exact HB.out)⟩⟩

/-! ### impl_needsOf: function 61 -/
def impl_needsOf.l0 : Nat → List Int → List Int → List (S45) → Int → Int → Option (List Int)
  | 0, _, _, _, _, _ => none
  | k + 1, x3, x4, x14, x15, x16 => if x16 < x15 then (if 0 ≤ x16 then (if x16 < (x14.length : Int) then (if ((rd_T45 x14 x16).f3) > 0 then ((impl_branchPressure.f k ((rd_T45 x14 x16).f3) ((rd_T45 x14 x16).f4)).bind fun bt499 => (if x16 < (x3.length : Int) then (if x16 < (x4.length : Int) then (impl_needsOf.l0 k x3 (x4.set (x16 : Int).toNat (wrap64 ((rd x3 x16) + bt499.1))) x14 x15 (wrap64 (x16 + 1))) else (none)) else (none))) else (impl_needsOf.l0 k x3 x4 x14 x15 (wrap64 (x16 + 1)))) else (none)) else (none)) else (some x4)
def impl_needsOf.f (k : Nat) (l0 : List (S45)) : Option (List Int) := (impl_lossesTo.f k l0).bind fun t491 => (if 0 ≤ (l0.length : Int) then (if ((l0.length : Int) : Int).toNat ≤ 35184372088832 then (impl_needsOf.l0 k t491 (List.replicate ((l0.length : Int) : Int).toNat 0) l0 (l0.length : Int) 0) else (none)) else (none))
theorem impl_needsOf.mono_l : ∀ k, (∀ y0 y1 y2 y3 y4, LeO (impl_needsOf.l0 k y0 y1 y2 y3 y4) (impl_needsOf.l0 (k + 1) y0 y1 y2 y3 y4))
 | 0 => fun _ _ _ _ _ r h => by simp [impl_needsOf.l0] at h
 | k + 1 => by
  have ih0 := impl_needsOf.mono_l k
  · intro y0 y1 y2 y3 y4
    unfold impl_needsOf.l0
    repeat' first
    | (with_reducible exact ih0 _ _ _ _ _)
    | (with_reducible exact impl_branchPressure.mono _ _ _)
    | (with_reducible exact impl_lossesTo.mono _ _)
    | (with_reducible exact LeO.refl _)
    | (with_reducible exact LeO.none _)
    | (with_reducible refine LeO.ite ?_ ?_)
    | (with_reducible refine LeO.bind ?_ (fun _ => ?_))
    | exact ih0 _ _ _ _ _
    | exact impl_branchPressure.mono _ _ _
    | exact impl_lossesTo.mono _ _
    | exact LeO.none _
    | refine LeO.ite ?_ ?_
    | refine LeO.bind ?_ (fun _ => ?_)
theorem impl_needsOf.mono : ∀ a0 k, LeO (impl_needsOf.f k a0) (impl_needsOf.f (k + 1) a0) := by
 intro a0 k
 have ih0 := impl_needsOf.mono_l k
 unfold impl_needsOf.f
 repeat' first
  | (with_reducible exact ih0 _ _ _ _ _)
  | (with_reducible exact impl_branchPressure.mono _ _ _)
  | (with_reducible exact impl_lossesTo.mono _ _)
  | (with_reducible exact LeO.refl _)
  | (with_reducible exact LeO.none _)
  | (with_reducible refine LeO.ite ?_ ?_)
  | (with_reducible refine LeO.bind ?_ (fun _ => ?_))
  | exact ih0 _ _ _ _ _
  | exact impl_branchPressure.mono _ _ _
  | exact impl_lossesTo.mono _ _
  | exact LeO.none _
  | refine LeO.ite ?_ ?_
  | refine LeO.bind ?_ (fun _ => ?_)
set_option maxHeartbeats 8000000 in
set_option maxRecDepth 100000 in
theorem impl_needsOf.calls (k : Nat) (A0 : Option Addr) (c0 : Nat) (l0 : List (S45)) (r : List Int) (w : World) (hr0 : Kd.C k45 w A0 l0.length l0) (hc0 : l0.length ≤ c0) (h : impl_needsOf.f k l0 = some r) :
  Calls Try.prog 61 #[.slice A0 l0.length c0] w fun e w' => ∃ v0_ : Value, e = .returned (v0_) ∧ Kd.R (Kd.int .i64) 3 w' w.heap.size (fun _ => True) v0_ r ∧ Below w.heap.size w w' := by
 have hu45 := Try.underlying45
 have HR0 := Aside0.mk hr0
 have HC0 := Aside0.mk hc0
 clear hr0 hc0
 have HB := Aside0.mk (Below.refl w.heap.size w)
 have H : ((impl_lossesTo.f k l0).bind fun t491 => (if 0 ≤ (l0.length : Int) then (if ((l0.length : Int) : Int).toNat ≤ 35184372088832 then (impl_needsOf.l0 k t491 (List.replicate ((l0.length : Int) : Int).toNat 0) l0 (l0.length : Int) 0) else (none)) else (none))) = some r := h
 clear h
 replace H := Option.bind_eq_some_iff.mp H
 obtain ⟨t491, A20, H⟩ := H
 replace H : (if 0 ≤ (l0.length : Int) then (if ((l0.length : Int) : Int).toNat ≤ 35184372088832 then (impl_needsOf.l0 k t491 (List.replicate ((l0.length : Int) : Int).toNat 0) l0 (l0.length : Int) 0) else (none)) else (none)) = some r := H
 have A2 := Aside0.mk A20
 clear A20
 by_cases c3 : 0 ≤ (l0.length : Int)
 case neg =>
  rw [if_neg c3] at H
  exact absurd H (by simp)
 rw [if_pos c3] at H
 have c3b0 := eq_true c3
 have c3b1 : decide (0 ≤ (l0.length : Int)) = true := decide_eq_true c3
 clear c3
 by_cases c4 : ((l0.length : Int) : Int).toNat ≤ 35184372088832
 case neg =>
  rw [if_neg c4] at H
  exact absurd H (by simp)
 rw [if_pos c4] at H
 have c4b0 := eq_true c4
 have c4b1 : decide (((l0.length : Int) : Int).toNat ≤ 35184372088832) = true := decide_eq_true c4
 clear c4
 obtain ⟨y494, hy494⟩ : ∃ y_ : List Int, y_ = (List.replicate ((l0.length : Int) : Int).toNat 0) := ⟨_, rfl⟩
 replace H : (impl_needsOf.l0 k t491 y494 l0 (l0.length : Int) 0) = some r := by first | (rw [hy494]; with_reducible exact H) | (have H2_ := (Option.bind_some _ _).symm.trans H; rw [hy494]; with_reducible exact H2_) | (have H2_ := (Option.bind_some _ _).symm.trans H; with_reducible exact H2_) | with_reducible exact H | (rw [hy494]; exact H) | exact H
 have Ny494 := Aside0.mk hy494
 clear hy494
 have H' := Aside0.mk H
 clear H
 go_enter Try.func61, Try.ntmps61
 go_wp2_with (first | ((with_reducible refine gate_callee (f := 66) rfl ?_); refine goesL_ (some 10) rfl rfl Try.func66 (by kernel_rfl) rfl #[.slice A0 l0.length c0] rfl (by (try simp only [List.map_toArray, List.map_cons, List.map_nil]); first | done | rfl) ?_; (with_reducible refine (impl_lossesTo.calls k _ _ l0 t491 _ ?side1 ?side2 A2.out).mono ?_); (case side1 => repeat (first | exact HR0.out | (with_reducible refine Kd.C_alloc ?_ _) | (with_reducible refine Kd.C_drewN ?_ _) | (with_reducible refine Kd.C_drew ?_))); (case side2 => exact HC0.out); rintro e w5 ⟨v492, rfl, ho0, hb⟩; refine ⟨_, rfl, ?_⟩; have n0_ := Aside0.mk (Kd.R_lower ho0 (below_size (by repeat (first | (with_reducible first | exact HB.out | apply bA_ | apply bN_ | apply b1_) | exact HB.out)))); have n1_ := Aside0.mk (below_step (by repeat (first | (with_reducible first | exact HB.out | apply bA_ | apply bN_ | apply b1_) | exact HB.out)) hb); clear HB; have HO493 := n0_; have HB := n1_; clear n0_ n1_; (try clear hb); (try clear hb2); (try clear hk); (try clear hi); (try clear ho0)) | ((with_reducible refine gate_dst (N := 13) rfl ?_); refine Kd.R_make (Kd.int .i64) _ 3 rfl (N := 13) rfl 31 _ _ rfl (l0.length : Int) rfl rfl Try.underlying31 (.int .i64 0) 8 info3 rfl (by decide) (by omega) 0 (ok := fun _ => True) (okp := fun _ => True) rfl (fun _ hk => hk) trivial (of_decide_eq_true (by first|with_reducible assumption|assumption)) (Nat.le_trans (Nat.mul_le_mul_right _ (of_decide_eq_true (by first|with_reducible assumption|assumption) : (l0.length : Int).toNat ≤ 35184372088832)) (by omega)) (Below.refl _ _) (Nat.le_refl _) ?_; intro v495 w6 ho7 hb hg_ hnew_; clear hg_ hnew_; (first | rw [← Ny494.out] at ho7 | (simp only [Int.reduceToNat] at ho7; rw [← Ny494.out] at ho7)); have n0_ := Aside0.mk (Kd.R_elder' (by (with_reducible repeat (first | apply Kd.R_alloc | apply Kd.R_drewN | apply Kd.R_drew)); exact HO493.out) (Kd.R_base ho7) hb); have n1_ := Aside0.mk (Kd.R_lower (Kd.R_new' ho7 (Kd.R_lt (by (with_reducible repeat (first | apply Kd.R_alloc | apply Kd.R_drewN | apply Kd.R_drew)); exact HO493.out))) (below_size (by repeat (first | (with_reducible first | exact HB.out | apply bA_ | apply bN_ | apply b1_) | exact HB.out)))); have n2_ := Aside0.mk (below_step (by repeat (first | (with_reducible first | exact HB.out | apply bA_ | apply bN_ | apply b1_) | exact HB.out)) hb); clear HO493; clear HB; have HO493 := n0_; have HO496 := n1_; have HB := n2_; clear n0_ n1_ n2_; clear hb ho7))
 go_loopg [16] k (fun kq v16 w' => ∃ (x4_1 : List Int) (x16_1 : Int), v16 = .int .i64 x16_1 ∧ Aside0 (impl_needsOf.l0 kq t491 x4_1 l0 (l0.length : Int) x16_1 = some r) ∧ Aside0 (kq ≤ k) ∧ Aside0 (Kd.R (Kd.int .i64) 3 w' w.heap.size (fun k_ => some k_ ≠ (v495 : Value).ownBlock) v492 t491) ∧ Aside0 (Kd.R (Kd.int .i64) 3 w' w.heap.size (fun k_ => some k_ ≠ (v492 : Value).ownBlock) v495 x4_1) ∧ Aside0 (Below w.heap.size w w'))
 case atStart => exact ⟨(y494), (0), (by first | rfl | (simp; done) | (simp [*]; done)), H', ⟨Nat.le_refl _⟩, ⟨by (with_reducible repeat (first | apply Kd.R_alloc | apply Kd.R_drewN | apply Kd.R_drew)); exact Kd.R_mono HO493.out (fun _ hk => hk.2)⟩, ⟨by (with_reducible repeat (first | apply Kd.R_alloc | apply Kd.R_drewN | apply Kd.R_drew)); exact Kd.R_mono HO496.out (fun _ hk => hk.2)⟩, ⟨by repeat (first | (with_reducible first | exact HB.out | apply bA_ | apply bN_ | apply b1_) | exact HB.out)⟩⟩
 case round =>
  clear H'
  try clear p2
  try clear c3
  try clear c3b0
  try clear c3b1
  try clear c4
  try clear c4b0
  try clear c4b1
  try clear c6
  obtain ⟨x4_1, x16_1, rfl, HA, HK1, HO_3, HO_4, HB⟩ := hrel
  cases gk with
  | zero => exact absurd HA.out (by simp [impl_needsOf.l0])
  | succ k1 =>
   have H := HA.out
   clear HA
   simp only [impl_needsOf.l0] at H
   by_cases c8 : x16_1 < (l0.length : Int)
   case neg =>
    rw [if_neg c8] at H
    have c8b0 : decide (x16_1 < (l0.length : Int)) = false := decide_eq_false c8
    clear c8
    obtain rfl := Option.some.inj H
    go_wp2
    go_ret
    exact ⟨_, by first | rfl | (simp [errW_none, errW_some] <;> rfl) | (simp [*, errW_none, errW_some] <;> rfl), by (with_reducible repeat (first | apply Kd.R_alloc | apply Kd.R_drewN | apply Kd.R_drew)); exact Kd.R_mono HO_4.out (fun _ hk => trivial), by repeat (first | (with_reducible first | exact HB.out | apply bA_ | apply bN_ | apply b1_) | exact HB.out)⟩
   rw [if_pos c8] at H
   have c8b0 : decide (x16_1 < (l0.length : Int)) = true := decide_eq_true c8
   clear c8
   by_cases c9 : 0 ≤ x16_1
   case neg =>
    rw [if_neg c9] at H
    exact absurd H (by simp)
   rw [if_pos c9] at H
   have c9b0 : decide (0 ≤ x16_1) = true := decide_eq_true c9
   clear c9
   by_cases c10 : x16_1 < (l0.length : Int)
   case neg =>
    rw [if_neg c10] at H
    exact absurd H (by simp)
   rw [if_pos c10] at H
   have c10b0 : decide (x16_1 < (l0.length : Int)) = true := decide_eq_true c10
   clear c10
   by_cases c11 : ((rd_T45 l0 x16_1).f3) > 0
   case neg =>
    rw [if_neg c11] at H
    have c11b0 : decide (0 < ((rd_T45 l0 x16_1).f3)) = false := decide_eq_false c11
    clear c11
    have H' := Aside0.mk H
    clear H
    have p497 : 0 ≤ (x16_1 : Int) := of_decide_eq_true (by first|with_reducible assumption|assumption)
    have q497 : x16_1 < (l0.length : Int) := of_decide_eq_true (by first|with_reducible assumption|assumption)
    obtain ⟨ad497, e497, hx497_0, hx497_1, hx497_2, hx497_3, hx497_4, hx497_5⟩ := at_T45 HR0.out x16_1 p497 q497
    cases e497
    replace hx497_0 := cl_ HB.out hx497_0
    replace hx497_1 := cl_ HB.out hx497_1
    replace hx497_2 := cl_ HB.out hx497_2
    replace hx497_3 := cl_ HB.out hx497_3
    replace hx497_4 := cl_ HB.out hx497_4
    replace hx497_5 := cl_ HB.out hx497_5
    replace p497 := eq_true p497
    replace q497 := eq_true q497
    go_wp2_with (first | ((with_reducible refine gate_dst (N := 6) rfl ?_); refine box_event ?hg (N := 6) ?hd (cs := #[.int .i64 0, .int .i64 0, .int .i64 0, .int .i64 0, .int .i64 0, .int .i64 0]) (t := 45) ?hr ?_; (case hd => rfl); (case hg => rfl); (case hr => first | (go_simp; done) | (go_simp; rfl)); intro gb498 hg w23 hbox hb; have n0_ := Aside0.mk (Kd.R_below (by (with_reducible repeat (first | apply Kd.R_alloc | apply Kd.R_drewN | apply Kd.R_drew)); exact HO_3.out) hb); have n1_ := Aside0.mk (Kd.R_below (by (with_reducible repeat (first | apply Kd.R_alloc | apply Kd.R_drewN | apply Kd.R_drew)); exact HO_4.out) hb); have n2_ := Aside0.mk (below_step (by repeat (first | (with_reducible first | exact HB.out | apply bA_ | apply bN_ | apply b1_) | exact HB.out)) hb); have n3_ := Aside0.mk (hbox); have n4_ := Aside0.mk ((by rw [hg]; exact (below_size (by repeat (first | (with_reducible first | exact HB.out | apply bA_ | apply bN_ | apply b1_) | exact HB.out))) : w.heap.size ≤ gb498)); have n5_ := n4_; clear HO_3; clear HO_4; clear HB; have HO_3 := n0_; have HO_4 := n1_; have HB := n2_; have BK498 := n3_; have GW498 := n4_; have GE498 := n5_; clear n0_ n1_ n2_ n3_ n4_ n5_; clear hb hbox hg; obtain ⟨hcz24_0, hcz24_1, hcz24_2, hcz24_3, hcz24_4, hcz24_5, hfz24_0, hfz24_1, hfz24_2, hfz24_3, hfz24_4, hfz24_5⟩ := blk6_ BK498.out))
    go_roundg k1
    case measure => have := HK1.out; omega
    case rel => exact ⟨(x4_1), (wrap64 (x16_1 + 1)), (by first | rfl | (simp; done) | (simp [*]; done)), H', ⟨by have := HK1.out; omega⟩, ⟨by (with_reducible repeat (first | apply Kd.R_alloc | apply Kd.R_drewN | apply Kd.R_drew)); exact Kd.R_mono (Kd.R_far (p := ⟨gb498, 5, none⟩) (Kd.R_far (p := ⟨gb498, 4, none⟩) (Kd.R_far (p := ⟨gb498, 3, none⟩) (Kd.R_far (p := ⟨gb498, 2, none⟩) (Kd.R_far (p := ⟨gb498, 1, none⟩) (Kd.R_far (p := ⟨gb498, 0, none⟩) (Kd.R_types HO_3.out BK498.out (by decide)) (fun _ hk => hk.2) (.int .i64 ((rd_T45 l0 x16_1).f0))) (fun _ hk => hk.2) (.int .i64 ((rd_T45 l0 x16_1).f1.f0))) (fun _ hk => hk.2) (.int .i64 ((rd_T45 l0 x16_1).f1.f1))) (fun _ hk => hk.2) (.int .i64 ((rd_T45 l0 x16_1).f2))) (fun _ hk => hk.2) (.int .i64 ((rd_T45 l0 x16_1).f3))) (fun _ hk => hk.2) (.int .i64 ((rd_T45 l0 x16_1).f4))) (fun _ hk => hk.1)⟩, ⟨by (with_reducible repeat (first | apply Kd.R_alloc | apply Kd.R_drewN | apply Kd.R_drew)); exact Kd.R_mono (Kd.R_far (p := ⟨gb498, 5, none⟩) (Kd.R_far (p := ⟨gb498, 4, none⟩) (Kd.R_far (p := ⟨gb498, 3, none⟩) (Kd.R_far (p := ⟨gb498, 2, none⟩) (Kd.R_far (p := ⟨gb498, 1, none⟩) (Kd.R_far (p := ⟨gb498, 0, none⟩) (Kd.R_types HO_4.out BK498.out (by decide)) (fun _ hk => hk.2) (.int .i64 ((rd_T45 l0 x16_1).f0))) (fun _ hk => hk.2) (.int .i64 ((rd_T45 l0 x16_1).f1.f0))) (fun _ hk => hk.2) (.int .i64 ((rd_T45 l0 x16_1).f1.f1))) (fun _ hk => hk.2) (.int .i64 ((rd_T45 l0 x16_1).f2))) (fun _ hk => hk.2) (.int .i64 ((rd_T45 l0 x16_1).f3))) (fun _ hk => hk.2) (.int .i64 ((rd_T45 l0 x16_1).f4))) (fun _ hk => hk.1)⟩, ⟨by repeat (first | (with_reducible first | exact HB.out | apply bA_ | apply bN_ | apply b1_ | refine below_set ?_ GE498.out) | exact HB.out)⟩⟩
   rw [if_pos c11] at H
   have c11b0 : decide (0 < ((rd_T45 l0 x16_1).f3)) = true := decide_eq_true c11
   clear c11
   replace H := Option.bind_eq_some_iff.mp H
   obtain ⟨⟨t499, t500⟩, A120, H⟩ := H
   replace H : (if x16_1 < (t491.length : Int) then (if x16_1 < (x4_1.length : Int) then (impl_needsOf.l0 k1 t491 (x4_1.set (x16_1 : Int).toNat (wrap64 ((rd t491 x16_1) + t499))) l0 (l0.length : Int) (wrap64 (x16_1 + 1))) else (none)) else (none)) = some r := H
   have A12 := Aside0.mk A120
   clear A120
   by_cases c13 : x16_1 < (t491.length : Int)
   case neg =>
    rw [if_neg c13] at H
    exact absurd H (by simp)
   rw [if_pos c13] at H
   have c13b0 : decide (x16_1 < (t491.length : Int)) = true := decide_eq_true c13
   clear c13
   by_cases c14 : x16_1 < (x4_1.length : Int)
   case neg =>
    rw [if_neg c14] at H
    exact absurd H (by simp)
   rw [if_pos c14] at H
   have c14b0 : decide (x16_1 < (x4_1.length : Int)) = true := decide_eq_true c14
   clear c14
   obtain ⟨y502, hy502⟩ : ∃ y_ : List Int, y_ = (x4_1.set (x16_1 : Int).toNat (wrap64 ((rd t491 x16_1) + t499))) := ⟨_, rfl⟩
   replace H : (impl_needsOf.l0 k1 t491 y502 l0 (l0.length : Int) (wrap64 (x16_1 + 1))) = some r := by first | (rw [hy502]; with_reducible exact H) | (have H2_ := (Option.bind_some _ _).symm.trans H; rw [hy502]; with_reducible exact H2_) | (have H2_ := (Option.bind_some _ _).symm.trans H; with_reducible exact H2_) | with_reducible exact H | (rw [hy502]; exact H) | exact H
   have Ny502 := Aside0.mk hy502
   clear hy502
   have H' := Aside0.mk H
   clear H
   have p497 : 0 ≤ (x16_1 : Int) := of_decide_eq_true (by first|with_reducible assumption|assumption)
   have q497 : x16_1 < (l0.length : Int) := of_decide_eq_true (by first|with_reducible assumption|assumption)
   obtain ⟨ad497, e497, hx497_0, hx497_1, hx497_2, hx497_3, hx497_4, hx497_5⟩ := at_T45 HR0.out x16_1 p497 q497
   cases e497
   replace hx497_0 := cl_ HB.out hx497_0
   replace hx497_1 := cl_ HB.out hx497_1
   replace hx497_2 := cl_ HB.out hx497_2
   replace hx497_3 := cl_ HB.out hx497_3
   replace hx497_4 := cl_ HB.out hx497_4
   replace hx497_5 := cl_ HB.out hx497_5
   replace p497 := eq_true p497
   replace q497 := eq_true q497
   go_wp2_with (first | ((with_reducible refine gate_dst (N := 6) rfl ?_); refine box_event ?hg (N := 6) ?hd (cs := #[.int .i64 0, .int .i64 0, .int .i64 0, .int .i64 0, .int .i64 0, .int .i64 0]) (t := 45) ?hr ?_; (case hd => rfl); (case hg => rfl); (case hr => first | (go_simp; done) | (go_simp; rfl)); intro gb498 hg w16 hbox hb; have n0_ := Aside0.mk (Kd.R_below (by (with_reducible repeat (first | apply Kd.R_alloc | apply Kd.R_drewN | apply Kd.R_drew)); exact HO_3.out) hb); have n1_ := Aside0.mk (Kd.R_below (by (with_reducible repeat (first | apply Kd.R_alloc | apply Kd.R_drewN | apply Kd.R_drew)); exact HO_4.out) hb); have n2_ := Aside0.mk (below_step (by repeat (first | (with_reducible first | exact HB.out | apply bA_ | apply bN_ | apply b1_) | exact HB.out)) hb); have n3_ := Aside0.mk (hbox); have n4_ := Aside0.mk ((by rw [hg]; exact (below_size (by repeat (first | (with_reducible first | exact HB.out | apply bA_ | apply bN_ | apply b1_) | exact HB.out))) : w.heap.size ≤ gb498)); have n5_ := n4_; clear HO_3; clear HO_4; clear HB; have HO_3 := n0_; have HO_4 := n1_; have HB := n2_; have BK498 := n3_; have GW498 := n4_; have GE498 := n5_; clear n0_ n1_ n2_ n3_ n4_ n5_; clear hb hbox hg; obtain ⟨hcz17_0, hcz17_1, hcz17_2, hcz17_3, hcz17_4, hcz17_5, hfz17_0, hfz17_1, hfz17_2, hfz17_3, hfz17_4, hfz17_5⟩ := blk6_ BK498.out) | ((with_reducible refine gate_store (t := 45) (p := 6) rfl ?_); refine store_event (t := 45) (p := 6) (v := ?vo_w18) (w1 := ((((((w16.setCell ⟨gb498, 0, none⟩ (.int .i64 ((rd_T45 l0 x16_1).f0))).setCell ⟨gb498, 1, none⟩ (.int .i64 ((rd_T45 l0 x16_1).f1.f0))).setCell ⟨gb498, 2, none⟩ (.int .i64 ((rd_T45 l0 x16_1).f1.f1))).setCell ⟨gb498, 3, none⟩ (.int .i64 ((rd_T45 l0 x16_1).f2))).setCell ⟨gb498, 4, none⟩ (.int .i64 ((rd_T45 l0 x16_1).f3))).setCell ⟨gb498, 5, none⟩ (.int .i64 ((rd_T45 l0 x16_1).f4)))) ?hg ?ho ?hn ?hr ?_; (case ho => rfl); (case hg => rfl); (case hn => rfl); (case hr => first | (go_simp; done) | (go_simp; rfl)); intro w18 hw; have n0_ : Aside0 (Kd.R (Kd.int .i64) 3 w18 w.heap.size (fun k_ => some k_ ≠ (v495 : Value).ownBlock) v492 t491) := ⟨(by rw [hw]; exact (by (with_reducible repeat (first | apply Kd.R_alloc | apply Kd.R_drewN | apply Kd.R_drew)); exact Kd.R_mono (Kd.R_far (p := ⟨gb498, 5, none⟩) (Kd.R_far (p := ⟨gb498, 4, none⟩) (Kd.R_far (p := ⟨gb498, 3, none⟩) (Kd.R_far (p := ⟨gb498, 2, none⟩) (Kd.R_far (p := ⟨gb498, 1, none⟩) (Kd.R_far (p := ⟨gb498, 0, none⟩) (Kd.R_types HO_3.out BK498.out (by decide)) (fun _ hk => hk.2) (.int .i64 ((rd_T45 l0 x16_1).f0))) (fun _ hk => hk.2) (.int .i64 ((rd_T45 l0 x16_1).f1.f0))) (fun _ hk => hk.2) (.int .i64 ((rd_T45 l0 x16_1).f1.f1))) (fun _ hk => hk.2) (.int .i64 ((rd_T45 l0 x16_1).f2))) (fun _ hk => hk.2) (.int .i64 ((rd_T45 l0 x16_1).f3))) (fun _ hk => hk.2) (.int .i64 ((rd_T45 l0 x16_1).f4))) (fun _ hk => hk.1)))⟩; have n1_ : Aside0 (Kd.R (Kd.int .i64) 3 w18 w.heap.size (fun k_ => some k_ ≠ (v492 : Value).ownBlock) v495 x4_1) := ⟨(by rw [hw]; exact (by (with_reducible repeat (first | apply Kd.R_alloc | apply Kd.R_drewN | apply Kd.R_drew)); exact Kd.R_mono (Kd.R_far (p := ⟨gb498, 5, none⟩) (Kd.R_far (p := ⟨gb498, 4, none⟩) (Kd.R_far (p := ⟨gb498, 3, none⟩) (Kd.R_far (p := ⟨gb498, 2, none⟩) (Kd.R_far (p := ⟨gb498, 1, none⟩) (Kd.R_far (p := ⟨gb498, 0, none⟩) (Kd.R_types HO_4.out BK498.out (by decide)) (fun _ hk => hk.2) (.int .i64 ((rd_T45 l0 x16_1).f0))) (fun _ hk => hk.2) (.int .i64 ((rd_T45 l0 x16_1).f1.f0))) (fun _ hk => hk.2) (.int .i64 ((rd_T45 l0 x16_1).f1.f1))) (fun _ hk => hk.2) (.int .i64 ((rd_T45 l0 x16_1).f2))) (fun _ hk => hk.2) (.int .i64 ((rd_T45 l0 x16_1).f3))) (fun _ hk => hk.2) (.int .i64 ((rd_T45 l0 x16_1).f4))) (fun _ hk => hk.1)))⟩; have n2_ : Aside0 (w18.heap[gb498]? = some (.cells #[.int .i64 ((rd_T45 l0 x16_1).f0), .int .i64 ((rd_T45 l0 x16_1).f1.f0), .int .i64 ((rd_T45 l0 x16_1).f1.f1), .int .i64 ((rd_T45 l0 x16_1).f2), .int .i64 ((rd_T45 l0 x16_1).f3), .int .i64 ((rd_T45 l0 x16_1).f4)] 45 (0, 0))) := ⟨(by rw [hw]; exact (by (with_reducible repeat (first | refine blk_drewN ?_ _ | refine blk_drew ?_ | refine blk_alloc ?_ _)); refine blk_put (cs := #[.int .i64 ((rd_T45 l0 x16_1).f0), .int .i64 ((rd_T45 l0 x16_1).f1.f0), .int .i64 ((rd_T45 l0 x16_1).f1.f1), .int .i64 ((rd_T45 l0 x16_1).f2), .int .i64 ((rd_T45 l0 x16_1).f3), .int .i64 0]) ?_ 5 _ rfl; (with_reducible repeat (first | refine blk_drewN ?_ _ | refine blk_drew ?_ | refine blk_alloc ?_ _)); refine blk_put (cs := #[.int .i64 ((rd_T45 l0 x16_1).f0), .int .i64 ((rd_T45 l0 x16_1).f1.f0), .int .i64 ((rd_T45 l0 x16_1).f1.f1), .int .i64 ((rd_T45 l0 x16_1).f2), .int .i64 0, .int .i64 0]) ?_ 4 _ rfl; (with_reducible repeat (first | refine blk_drewN ?_ _ | refine blk_drew ?_ | refine blk_alloc ?_ _)); refine blk_put (cs := #[.int .i64 ((rd_T45 l0 x16_1).f0), .int .i64 ((rd_T45 l0 x16_1).f1.f0), .int .i64 ((rd_T45 l0 x16_1).f1.f1), .int .i64 0, .int .i64 0, .int .i64 0]) ?_ 3 _ rfl; (with_reducible repeat (first | refine blk_drewN ?_ _ | refine blk_drew ?_ | refine blk_alloc ?_ _)); refine blk_put (cs := #[.int .i64 ((rd_T45 l0 x16_1).f0), .int .i64 ((rd_T45 l0 x16_1).f1.f0), .int .i64 0, .int .i64 0, .int .i64 0, .int .i64 0]) ?_ 2 _ rfl; (with_reducible repeat (first | refine blk_drewN ?_ _ | refine blk_drew ?_ | refine blk_alloc ?_ _)); refine blk_put (cs := #[.int .i64 ((rd_T45 l0 x16_1).f0), .int .i64 0, .int .i64 0, .int .i64 0, .int .i64 0, .int .i64 0]) ?_ 1 _ rfl; (with_reducible repeat (first | refine blk_drewN ?_ _ | refine blk_drew ?_ | refine blk_alloc ?_ _)); refine blk_put (cs := #[.int .i64 0, .int .i64 0, .int .i64 0, .int .i64 0, .int .i64 0, .int .i64 0]) ?_ 0 _ rfl; (with_reducible repeat (first | refine blk_drewN ?_ _ | refine blk_drew ?_ | refine blk_alloc ?_ _)); exact BK498.out))⟩; have n3_ : Aside0 (Below w.heap.size w w18) := ⟨(by rw [hw]; exact (by repeat (first | (with_reducible first | exact HB.out | apply bA_ | apply bN_ | apply b1_ | refine below_set ?_ GE498.out) | exact HB.out)))⟩; clear hw; clear HO_3; clear HO_4; clear BK498; clear HB; have HO_3 := n0_; have HO_4 := n1_; have BK498 := n2_; have HB := n3_; clear n0_ n1_ n2_ n3_; obtain ⟨hcz19_0, hcz19_1, hcz19_2, hcz19_3, hcz19_4, hcz19_5, hfz19_0, hfz19_1, hfz19_2, hfz19_3, hfz19_4, hfz19_5⟩ := blk6_ BK498.out) | ((with_reducible refine gate_callee (f := 79) rfl ?_); refine goesL_ (some 29) rfl rfl Try.func79 (by kernel_rfl) rfl #[.int .i64 ((rd_T45 l0 x16_1).f3), .int .i64 ((rd_T45 l0 x16_1).f4)] rfl (by (try simp only [List.map_toArray, List.map_cons, List.map_nil]); first | done | rfl) ?_; (with_reducible refine (impl_branchPressure.calls k1 ((rd_T45 l0 x16_1).f3) ((rd_T45 l0 x16_1).f4) t499 t500 _ A12.out).mono ?_); rintro e w' ⟨rfl, ⟨nd, rfl⟩⟩; refine ⟨_, rfl, ?_⟩; (try (rw [drewN_self w18]; generalize hq_ : World.drewN w18 _ = w18; have n0_ : Aside0 (Kd.R (Kd.int .i64) 3 w18 w.heap.size (fun k_ => some k_ ≠ (v495 : Value).ownBlock) v492 t491) := ⟨by rw [← hq_]; exact (by (with_reducible repeat (first | apply Kd.R_alloc | apply Kd.R_drewN | apply Kd.R_drew)); exact HO_3.out)⟩; have n1_ : Aside0 (Kd.R (Kd.int .i64) 3 w18 w.heap.size (fun k_ => some k_ ≠ (v492 : Value).ownBlock) v495 x4_1) := ⟨by rw [← hq_]; exact (by (with_reducible repeat (first | apply Kd.R_alloc | apply Kd.R_drewN | apply Kd.R_drew)); exact HO_4.out)⟩; have n2_ : Aside0 (w18.heap[gb498]? = some (.cells #[.int .i64 ((rd_T45 l0 x16_1).f0), .int .i64 ((rd_T45 l0 x16_1).f1.f0), .int .i64 ((rd_T45 l0 x16_1).f1.f1), .int .i64 ((rd_T45 l0 x16_1).f2), .int .i64 ((rd_T45 l0 x16_1).f3), .int .i64 ((rd_T45 l0 x16_1).f4)] 45 (0, 0))) := ⟨by rw [← hq_]; exact (by (with_reducible repeat (first | refine blk_drewN ?_ _ | refine blk_drew ?_ | refine blk_alloc ?_ _)); exact BK498.out)⟩; have n3_ : Aside0 (Below w.heap.size w w18) := ⟨by rw [← hq_]; exact (by repeat (first | (with_reducible first | exact HB.out | apply bA_ | apply bN_ | apply b1_ | refine below_set ?_ GE498.out) | exact HB.out))⟩; clear HO_3 HO_4 BK498 HB hq_; have HO_3 := n0_; have HO_4 := n1_; have BK498 := n2_; have HB := n3_; clear n0_ n1_ n2_ n3_)); obtain ⟨Ao20, co20, eo20⟩ := Kd.R_slice HO_3.out; subst eo20; have p501 : 0 ≤ (x16_1 : Int) := of_decide_eq_true (by first|with_reducible assumption|assumption); have q501 : x16_1 < (t491.length : Int) := of_decide_eq_true (by first|with_reducible assumption|assumption); obtain ⟨ad501, e501, hx501_0⟩ := Kd.at_int (Kd.R_reads' HO_3.out).2.2 x16_1 p501 q501; cases e501; replace p501 := eq_true p501; replace q501 := eq_true q501; have p15 : 0 ≤ (x16_1 : Int) := of_decide_eq_true (by first|with_reducible assumption|assumption); have q15 : (x16_1 : Int) < ((x4_1.length : Int) : Int) := of_decide_eq_true (by first|with_reducible assumption|assumption); obtain ⟨go15, co15, eo15, gb15, gl15, cl15, HG15⟩ := Kd.R_form HO_4.out (by omega); (first | cases eo15 | (injection eo15 with ea_ en_ ec_; (first | subst ea_ | (injection ea_ with ea_; subst ea_)); subst ec_; clear en_)); have GB15 := Aside0.mk gb15; have GG15 := Aside0.mk HG15; clear gb15 gl15 HG15; obtain ⟨hx15_0, hf15_0⟩ := Kd.R_celln 0 HO_4.out (x16_1 : Int) p15 q15; replace p15 := eq_true p15; replace q15 := eq_true q15; obtain ⟨hy21_, hz21_⟩ := Kd.R_celln 0 HO_4.out (x16_1 : Int) (of_decide_eq_true (by first|with_reducible assumption|assumption)) (of_decide_eq_true (by first|with_reducible assumption|assumption)); have HP21 := Kd.R_putg HO_4.out (x16_1 : Int) (wrap64 ((rd t491 x16_1) + t499))) | ((with_reducible refine gate_store (t := 3) (p := 40) rfl ?_); refine store_event (t := 3) (p := 40) (v := ?vo_w22) (w1 := (w18.setCell ⟨go15, (x16_1 : Int).toNat, none⟩ (.int .i64 (wrap64 ((rd t491 x16_1) + t499))))) ?hg ?ho ?hn ?hr ?_; (case ho => rfl); (case hg => rfl); (case hn => rfl); (case hr => first | (go_simp; done) | (go_simp; rfl)); intro w22 hw; have hg : w18.grownBy w22 (some go15) := (by rw [hw]; exact HP21.2); have hp_ : Kd.R (Kd.int .i64) 3 w22 w.heap.size (fun k_ => some k_ ≠ (.slice (some ad501) t491.length co20 : Value).ownBlock) (.slice (some ⟨go15, 0, none⟩) x4_1.length co15) y502 := (by rw [hw, Ny502.out]; exact HP21.1); clear HP21; have n0_ := Aside0.mk (Kd.R_after (v := (.slice (some ⟨go15, 0, none⟩) x4_1.length co15)) (v1 := (.slice (some ⟨go15, 0, none⟩) x4_1.length co15)) (ok := (fun _ => True)) (by (with_reducible repeat (first | apply Kd.R_alloc | apply Kd.R_drewN | apply Kd.R_drew)); exact Kd.R_mono HO_3.out (fun _ hk => ⟨trivial, hk⟩)) hg (.inl rfl)); have n1_ := Aside0.mk (hp_); have n2_ := Aside0.mk (blk_grown (g := gb498) (o := .cells #[.int .i64 ((rd_T45 l0 x16_1).f0), .int .i64 ((rd_T45 l0 x16_1).f1.f0), .int .i64 ((rd_T45 l0 x16_1).f1.f1), .int .i64 ((rd_T45 l0 x16_1).f2), .int .i64 ((rd_T45 l0 x16_1).f3), .int .i64 ((rd_T45 l0 x16_1).f4)] 45 (0, 0)) (by (with_reducible repeat (first | refine blk_drewN ?_ _ | refine blk_drew ?_ | refine blk_alloc ?_ _)); exact BK498.out) hg (Kd.R_ne HO_4.out BK498.out (by decide))); have n3_ := Aside0.mk ((by rw [hw]; exact below_set (HB.out) GB15.out : Below w.heap.size w w22)); clear HO_3; clear HO_4; clear BK498; clear HB; have HO_3 := n0_; have HO_4 := n1_; have BK498 := n2_; have HB := n3_; clear n0_ n1_ n2_ n3_; clear hg hw hp_))
   go_roundg k1
   case measure => have := HK1.out; omega
   case rel => exact ⟨(y502), (wrap64 (x16_1 + 1)), (by first | rfl | (simp; done) | (simp [*]; done)), H', ⟨by have := HK1.out; omega⟩, ⟨by (with_reducible repeat (first | apply Kd.R_alloc | apply Kd.R_drewN | apply Kd.R_drew)); exact Kd.R_mono HO_3.out (fun _ hk => hk.2)⟩, ⟨by (with_reducible repeat (first | apply Kd.R_alloc | apply Kd.R_drewN | apply Kd.R_drew)); exact HO_4.out⟩, ⟨by repeat (first | (with_reducible first | exact HB.out | apply bA_ | apply bN_ | apply b1_ | refine below_set ?_ GE498.out) | exact HB.out)⟩⟩

end Go.Proofs.Ytenfngleiohbhaa.P
