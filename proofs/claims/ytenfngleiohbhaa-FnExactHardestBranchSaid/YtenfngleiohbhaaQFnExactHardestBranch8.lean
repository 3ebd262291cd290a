/- Written by a program of this session (wip/p2) out of the translation: plain Lean functions, and that the calls of the Go functions come to what these say. Conditions: as each contract states. -/
import Derived.Test.YtenfngleiohbhaaQFnExactHardestBranch7
namespace Go.Proofs.Ytenfngleiohbhaa.P
open Go.RowKit Go.Proofs.Ytenfngleiohbhaa Go.Proofs.YtenfngleiohbhaaW.PrintWords Go.Proofs.YtenfngleiohbhaaW.PrintLast Go.Proofs.YtenfngleiohbhaaW.PrintMore
attribute [local go_sem] max2_int min2_int max_two min_two max_three min_three max_four min_four   -- for this text's walks alone
set_option linter.unusedVariables false
set_option linter.unusedSimpArgs false

/-! ### impl_HardestBranch: function 35 -/
def impl_HardestBranch.l0 : Nat → List Int → Int → List (S45) → Int → Int → Option (Int × Bool)
  | 0, _, _, _, _, _ => none
  | k + 1, x4, x5, x13, x14, x15 => if x15 < x14 then (if 0 ≤ x15 then (if x15 < (x13.length : Int) then (if ((rd_T45 x13 x15).f3) > 0 then (if x5 < 0 then (impl_HardestBranch.l0 k x4 x15 x13 x14 (wrap64 (x15 + 1))) else (if x15 < (x4.length : Int) then (if 0 ≤ x5 then (if x5 < (x4.length : Int) then (if (rd x4 x15) > (rd x4 x5) then (impl_HardestBranch.l0 k x4 x15 x13 x14 (wrap64 (x15 + 1))) else (impl_HardestBranch.l0 k x4 x5 x13 x14 (wrap64 (x15 + 1)))) else (none)) else (none)) else (none))) else (impl_HardestBranch.l0 k x4 x5 x13 x14 (wrap64 (x15 + 1)))) else (none)) else (none)) else (some (x5, true))
def impl_HardestBranch.f (k : Nat) (l0 : List (S45)) : Option (Int × Bool) := (impl_isHoseLine.f k l0).bind fun t503 => (if t503 = true then ((impl_needsOf.f k l0).bind fun t504 => (impl_HardestBranch.l0 k t504 (-1) l0 (l0.length : Int) 0)) else (some (0, false)))
theorem impl_HardestBranch.mono_l : ∀ k, (∀ y0 y1 y2 y3 y4, LeO (impl_HardestBranch.l0 k y0 y1 y2 y3 y4) (impl_HardestBranch.l0 (k + 1) y0 y1 y2 y3 y4))
 | 0 => fun _ _ _ _ _ r h => by simp [impl_HardestBranch.l0] at h
 | k + 1 => by
  have ih0 := impl_HardestBranch.mono_l k
  · intro y0 y1 y2 y3 y4
    unfold impl_HardestBranch.l0
    repeat' first
    | (with_reducible exact ih0 _ _ _ _ _)
    | (with_reducible exact impl_isHoseLine.mono _ _)
    | (with_reducible exact impl_needsOf.mono _ _)
    | (with_reducible exact LeO.refl _)
    | (with_reducible exact LeO.none _)
    | (with_reducible refine LeO.ite ?_ ?_)
    | (with_reducible refine LeO.bind ?_ (fun _ => ?_))
    | exact ih0 _ _ _ _ _
    | exact impl_isHoseLine.mono _ _
    | exact impl_needsOf.mono _ _
    | exact LeO.none _
    | refine LeO.ite ?_ ?_
    | refine LeO.bind ?_ (fun _ => ?_)
theorem impl_HardestBranch.mono : ∀ a0 k, LeO (impl_HardestBranch.f k a0) (impl_HardestBranch.f (k + 1) a0) := by
 intro a0 k
 have ih0 := impl_HardestBranch.mono_l k
 unfold impl_HardestBranch.f
 repeat' first
  | (with_reducible exact ih0 _ _ _ _ _)
  | (with_reducible exact impl_isHoseLine.mono _ _)
  | (with_reducible exact impl_needsOf.mono _ _)
  | (with_reducible exact LeO.refl _)
  | (with_reducible exact LeO.none _)
  | (with_reducible refine LeO.ite ?_ ?_)
  | (with_reducible refine LeO.bind ?_ (fun _ => ?_))
  | exact ih0 _ _ _ _ _
  | exact impl_isHoseLine.mono _ _
  | exact impl_needsOf.mono _ _
  | exact LeO.none _
  | refine LeO.ite ?_ ?_
  | refine LeO.bind ?_ (fun _ => ?_)
set_option maxHeartbeats 8000000 in
set_option maxRecDepth 100000 in
theorem impl_HardestBranch.calls (k : Nat) (A0 : Option Addr) (c0 : Nat) (l0 : List (S45)) (r1 : Int) (r2 : Bool) (w : World) (hr0 : Kd.C k45 w A0 l0.length l0) (hc0 : l0.length ≤ c0) (h : impl_HardestBranch.f k l0 = some (r1, r2)) :
  Calls Try.prog 35 #[.slice A0 l0.length c0] w fun e w' => e = .returned (.tuple #[.int .i64 r1, .bool r2]) ∧ Below w.heap.size w w' := by
 have hu45 := Try.underlying45
 have HR0 := Aside0.mk hr0
 have HC0 := Aside0.mk hc0
 clear hr0 hc0
 have HB := Aside0.mk (Below.refl w.heap.size w)
 have H : ((impl_isHoseLine.f k l0).bind fun t503 => (if t503 = true then ((impl_needsOf.f k l0).bind fun t504 => (impl_HardestBranch.l0 k t504 (-1) l0 (l0.length : Int) 0)) else (some (0, false)))) = some (r1, r2) := h
 clear h
 replace H := Option.bind_eq_some_iff.mp H
 obtain ⟨t503, A20, H⟩ := H
 replace H : (if t503 = true then ((impl_needsOf.f k l0).bind fun t504 => (impl_HardestBranch.l0 k t504 (-1) l0 (l0.length : Int) 0)) else (some (0, false))) = some (r1, r2) := H
 have A2 := Aside0.mk A20
 clear A20
 by_cases c3 : t503 = true
 case neg =>
  replace c3 := Bool.eq_false_iff.mpr c3
  subst c3
  have H1 : (some (0, false)) = some (r1, r2) := by rw [if_neg (show ¬ (false = true) by decide)] at H; exact H
  clear H
  have H := H1
  clear H1
  simp only [Option.some.injEq, Prod.mk.injEq] at H
  obtain ⟨rfl, rfl⟩ := H
  go_enter Try.func35, Try.ntmps35
  go_wp2_with (first | (go_at_call 52; (with_reducible refine (impl_isHoseLine.calls k _ _ l0 false _ ?side1 ?side2 A2.out).mono ?_); (case side1 => repeat (first | exact HR0.out | (with_reducible refine Kd.C_alloc ?_ _) | (with_reducible refine Kd.C_drewN ?_ _) | (with_reducible refine Kd.C_drew ?_))); (case side2 => exact HC0.out); rintro e w26 ⟨rfl, hb⟩; have n0_ := Aside0.mk (below_step (by repeat (first | (with_reducible first | exact HB.out | apply bA_ | apply bN_ | apply b1_) | exact HB.out)) hb); clear HB; have HB := n0_; clear n0_; (try clear hb); (try clear hb2); (try clear hk); (try clear hi)))
  repeat (go_quiet (first | (go_at_call 52; (with_reducible refine (impl_isHoseLine.calls k _ _ l0 false _ ?side1 ?side2 A2.out).mono ?_); (case side1 => repeat (first | exact HR0.out | (with_reducible refine Kd.C_alloc ?_ _) | (with_reducible refine Kd.C_drewN ?_ _) | (with_reducible refine Kd.C_drew ?_))); (case side2 => exact HC0.out); rintro e w26 ⟨rfl, hb⟩; have n0_ := Aside0.mk (below_step (by repeat (first | (with_reducible first | exact HB.out | apply bA_ | apply bN_ | apply b1_) | exact HB.out)) hb); clear HB; have HB := n0_; clear n0_; (try clear hb); (try clear hb2); (try clear hk); (try clear hi))); try go_wp2_with (first | (go_at_call 52; (with_reducible refine (impl_isHoseLine.calls k _ _ l0 false _ ?side1 ?side2 A2.out).mono ?_); (case side1 => repeat (first | exact HR0.out | (with_reducible refine Kd.C_alloc ?_ _) | (with_reducible refine Kd.C_drewN ?_ _) | (with_reducible refine Kd.C_drew ?_))); (case side2 => exact HC0.out); rintro e w26 ⟨rfl, hb⟩; have n0_ := Aside0.mk (below_step (by repeat (first | (with_reducible first | exact HB.out | apply bA_ | apply bN_ | apply b1_) | exact HB.out)) hb); clear HB; have HB := n0_; clear n0_; (try clear hb); (try clear hb2); (try clear hk); (try clear hi))))
  go_ret2
  exact ⟨by first | rfl | (simp [errW_none, errW_some] <;> rfl) | (simp [*, errW_none, errW_some] <;> rfl), by repeat (first | (with_reducible first | exact HB.out | apply bA_ | apply bN_ | apply b1_) | exact HB.out)⟩
 subst c3
 have H1 : ((impl_needsOf.f k l0).bind fun t504 => (impl_HardestBranch.l0 k t504 (-1) l0 (l0.length : Int) 0)) = some (r1, r2) := by rw [if_pos rfl] at H; exact H
 clear H
 have H := H1
 clear H1
 replace H := Option.bind_eq_some_iff.mp H
 obtain ⟨t504, A40, H⟩ := H
 replace H : (impl_HardestBranch.l0 k t504 (-1) l0 (l0.length : Int) 0) = some (r1, r2) := H
 have A4 := Aside0.mk A40
 clear A40
 have H' := Aside0.mk H
 clear H
 go_enter Try.func35, Try.ntmps35
 go_wp2_with (first | (go_at_call 52; (with_reducible refine (impl_isHoseLine.calls k _ _ l0 true _ ?side1 ?side2 A2.out).mono ?_); (case side1 => repeat (first | exact HR0.out | (with_reducible refine Kd.C_alloc ?_ _) | (with_reducible refine Kd.C_drewN ?_ _) | (with_reducible refine Kd.C_drew ?_))); (case side2 => exact HC0.out); rintro e w5 ⟨rfl, hb⟩; have n0_ := Aside0.mk (below_step (by repeat (first | (with_reducible first | exact HB.out | apply bA_ | apply bN_ | apply b1_) | exact HB.out)) hb); clear HB; have HB := n0_; clear n0_; (try clear hb); (try clear hb2); (try clear hk); (try clear hi)) | (go_at_call 61; (with_reducible refine (impl_needsOf.calls k _ _ l0 t504 _ ?side1 ?side2 A4.out).mono ?_); (case side1 => repeat (first | exact (Kd.C_below HR0.out HB.out) | (with_reducible refine Kd.C_alloc ?_ _) | (with_reducible refine Kd.C_drewN ?_ _) | (with_reducible refine Kd.C_drew ?_))); (case side2 => exact HC0.out); rintro e w6 ⟨v505, rfl, ho0, hb⟩; have n0_ := Aside0.mk (Kd.R_lower ho0 (below_size (by repeat (first | (with_reducible first | exact HB.out | apply bA_ | apply bN_ | apply b1_) | exact HB.out)))); have n1_ := Aside0.mk (below_step (by repeat (first | (with_reducible first | exact HB.out | apply bA_ | apply bN_ | apply b1_) | exact HB.out)) hb); clear HB; have HO506 := n0_; have HB := n1_; clear n0_ n1_; (try clear hb); (try clear hb2); (try clear hk); (try clear hi); (try clear ho0)))
 repeat (go_quiet (first | (go_at_call 52; (with_reducible refine (impl_isHoseLine.calls k _ _ l0 true _ ?side1 ?side2 A2.out).mono ?_); (case side1 => repeat (first | exact HR0.out | (with_reducible refine Kd.C_alloc ?_ _) | (with_reducible refine Kd.C_drewN ?_ _) | (with_reducible refine Kd.C_drew ?_))); (case side2 => exact HC0.out); rintro e w5 ⟨rfl, hb⟩; have n0_ := Aside0.mk (below_step (by repeat (first | (with_reducible first | exact HB.out | apply bA_ | apply bN_ | apply b1_) | exact HB.out)) hb); clear HB; have HB := n0_; clear n0_; (try clear hb); (try clear hb2); (try clear hk); (try clear hi)) | (go_at_call 61; (with_reducible refine (impl_needsOf.calls k _ _ l0 t504 _ ?side1 ?side2 A4.out).mono ?_); (case side1 => repeat (first | exact (Kd.C_below HR0.out HB.out) | (with_reducible refine Kd.C_alloc ?_ _) | (with_reducible refine Kd.C_drewN ?_ _) | (with_reducible refine Kd.C_drew ?_))); (case side2 => exact HC0.out); rintro e w6 ⟨v505, rfl, ho0, hb⟩; have n0_ := Aside0.mk (Kd.R_lower ho0 (below_size (by repeat (first | (with_reducible first | exact HB.out | apply bA_ | apply bN_ | apply b1_) | exact HB.out)))); have n1_ := Aside0.mk (below_step (by repeat (first | (with_reducible first | exact HB.out | apply bA_ | apply bN_ | apply b1_) | exact HB.out)) hb); clear HB; have HO506 := n0_; have HB := n1_; clear n0_ n1_; (try clear hb); (try clear hb2); (try clear hk); (try clear hi); (try clear ho0))); try go_wp2_with (first | (go_at_call 52; (with_reducible refine (impl_isHoseLine.calls k _ _ l0 true _ ?side1 ?side2 A2.out).mono ?_); (case side1 => repeat (first | exact HR0.out | (with_reducible refine Kd.C_alloc ?_ _) | (with_reducible refine Kd.C_drewN ?_ _) | (with_reducible refine Kd.C_drew ?_))); (case side2 => exact HC0.out); rintro e w5 ⟨rfl, hb⟩; have n0_ := Aside0.mk (below_step (by repeat (first | (with_reducible first | exact HB.out | apply bA_ | apply bN_ | apply b1_) | exact HB.out)) hb); clear HB; have HB := n0_; clear n0_; (try clear hb); (try clear hb2); (try clear hk); (try clear hi)) | (go_at_call 61; (with_reducible refine (impl_needsOf.calls k _ _ l0 t504 _ ?side1 ?side2 A4.out).mono ?_); (case side1 => repeat (first | exact (Kd.C_below HR0.out HB.out) | (with_reducible refine Kd.C_alloc ?_ _) | (with_reducible refine Kd.C_drewN ?_ _) | (with_reducible refine Kd.C_drew ?_))); (case side2 => exact HC0.out); rintro e w6 ⟨v505, rfl, ho0, hb⟩; have n0_ := Aside0.mk (Kd.R_lower ho0 (below_size (by repeat (first | (with_reducible first | exact HB.out | apply bA_ | apply bN_ | apply b1_) | exact HB.out)))); have n1_ := Aside0.mk (below_step (by repeat (first | (with_reducible first | exact HB.out | apply bA_ | apply bN_ | apply b1_) | exact HB.out)) hb); clear HB; have HO506 := n0_; have HB := n1_; clear n0_ n1_; (try clear hb); (try clear hb2); (try clear hk); (try clear hi); (try clear ho0))))
 go_loopg [5, 15] k (fun kq v5 v15 w' => ∃ (x5_1 : Int) (x15_1 : Int), v5 = .int .i64 x5_1 ∧ v15 = .int .i64 x15_1 ∧ Aside0 (impl_HardestBranch.l0 kq t504 x5_1 l0 (l0.length : Int) x15_1 = some (r1, r2)) ∧ Aside0 (kq ≤ k) ∧ Aside0 (Kd.R (Kd.int .i64) 3 w' w.heap.size (fun _ => True) v505 t504) ∧ Aside0 (Below w.heap.size w w'))
 case atStart => exact ⟨((-1)), (0), (by first | rfl | (simp; done) | (simp [*]; done)), (by first | rfl | (simp; done) | (simp [*]; done)), H', ⟨Nat.le_refl _⟩, ⟨by (with_reducible repeat (first | apply Kd.R_alloc | apply Kd.R_drewN | apply Kd.R_drew)); exact HO506.out⟩, ⟨by repeat (first | (with_reducible first | exact HB.out | apply bA_ | apply bN_ | apply b1_) | exact HB.out)⟩⟩
 case round =>
  clear H'
  try clear p2
  try clear c3
  obtain ⟨x5_1, x15_1, rfl, rfl, HA, HK1, HO_4, HB⟩ := hrel
  cases gk with
  | zero => exact absurd HA.out (by simp [impl_HardestBranch.l0])
  | succ k1 =>
   have H := HA.out
   clear HA
   simp only [impl_HardestBranch.l0] at H
   by_cases c7 : x15_1 < (l0.length : Int)
   case neg =>
    rw [if_neg c7] at H
    have c7b0 : decide (x15_1 < (l0.length : Int)) = false := decide_eq_false c7
    clear c7
    simp only [Option.some.injEq, Prod.mk.injEq] at H
    obtain ⟨rfl, rfl⟩ := H
    go_wp2
    repeat (go_quiet (fail); try go_wp2)
    go_ret2
    exact ⟨by first | rfl | (simp [errW_none, errW_some] <;> rfl) | (simp [*, errW_none, errW_some] <;> rfl), by repeat (first | (with_reducible first | exact HB.out | apply bA_ | apply bN_ | apply b1_) | exact HB.out)⟩
   rw [if_pos c7] at H
   have c7b0 : decide (x15_1 < (l0.length : Int)) = true := decide_eq_true c7
   clear c7
   by_cases c8 : 0 ≤ x15_1
   case neg =>
    rw [if_neg c8] at H
    exact absurd H (by simp)
   rw [if_pos c8] at H
   have c8b0 : decide (0 ≤ x15_1) = true := decide_eq_true c8
   clear c8
   by_cases c9 : x15_1 < (l0.length : Int)
   case neg =>
    rw [if_neg c9] at H
    exact absurd H (by simp)
   rw [if_pos c9] at H
   have c9b0 : decide (x15_1 < (l0.length : Int)) = true := decide_eq_true c9
   clear c9
   by_cases c10 : ((rd_T45 l0 x15_1).f3) > 0
   case neg =>
    rw [if_neg c10] at H
    have c10b0 : decide (0 < ((rd_T45 l0 x15_1).f3)) = false := decide_eq_false c10
    clear c10
    have H' := Aside0.mk H
    clear H
    have p507 : 0 ≤ (x15_1 : Int) := of_decide_eq_true (by first|with_reducible assumption|assumption)
    have q507 : x15_1 < (l0.length : Int) := of_decide_eq_true (by first|with_reducible assumption|assumption)
    obtain ⟨ad507, e507, hx507_0, hx507_1, hx507_2, hx507_3, hx507_4, hx507_5⟩ := at_T45 HR0.out x15_1 p507 q507
    cases e507
    replace hx507_0 := cl_ HB.out hx507_0
    replace hx507_1 := cl_ HB.out hx507_1
    replace hx507_2 := cl_ HB.out hx507_2
    replace hx507_3 := cl_ HB.out hx507_3
    replace hx507_4 := cl_ HB.out hx507_4
    replace hx507_5 := cl_ HB.out hx507_5
    replace p507 := eq_true p507
    replace q507 := eq_true q507
    go_wp2_with (first | ((with_reducible refine gate_dst (N := 7) rfl ?_); refine box_event ?hg (N := 7) ?hd (cs := #[.int .i64 0, .int .i64 0, .int .i64 0, .int .i64 0, .int .i64 0, .int .i64 0]) (t := 45) ?hr ?_; (case hd => rfl); (case hg => rfl); (case hr => first | (go_simp; done) | (go_simp; rfl)); intro gb508 hg w24 hbox hb; have n0_ := Aside0.mk (Kd.R_below (by (with_reducible repeat (first | apply Kd.R_alloc | apply Kd.R_drewN | apply Kd.R_drew)); exact HO_4.out) hb); have n1_ := Aside0.mk (below_step (by repeat (first | (with_reducible first | exact HB.out | apply bA_ | apply bN_ | apply b1_) | exact HB.out)) hb); have n2_ := Aside0.mk (hbox); have n3_ := Aside0.mk ((by rw [hg]; exact (below_size (by repeat (first | (with_reducible first | exact HB.out | apply bA_ | apply bN_ | apply b1_) | exact HB.out))) : w.heap.size ≤ gb508)); have n4_ := n3_; clear HO_4; clear HB; have HO_4 := n0_; have HB := n1_; have BK508 := n2_; have GW508 := n3_; have GE508 := n4_; clear n0_ n1_ n2_ n3_ n4_; clear hb hbox hg; obtain ⟨hcz25_0, hcz25_1, hcz25_2, hcz25_3, hcz25_4, hcz25_5, hfz25_0, hfz25_1, hfz25_2, hfz25_3, hfz25_4, hfz25_5⟩ := blk6_ BK508.out))
    repeat (go_quiet (first | ((with_reducible refine gate_dst (N := 7) rfl ?_); refine box_event ?hg (N := 7) ?hd (cs := #[.int .i64 0, .int .i64 0, .int .i64 0, .int .i64 0, .int .i64 0, .int .i64 0]) (t := 45) ?hr ?_; (case hd => rfl); (case hg => rfl); (case hr => first | (go_simp; done) | (go_simp; rfl)); intro gb508 hg w24 hbox hb; have n0_ := Aside0.mk (Kd.R_below (by (with_reducible repeat (first | apply Kd.R_alloc | apply Kd.R_drewN | apply Kd.R_drew)); exact HO_4.out) hb); have n1_ := Aside0.mk (below_step (by repeat (first | (with_reducible first | exact HB.out | apply bA_ | apply bN_ | apply b1_) | exact HB.out)) hb); have n2_ := Aside0.mk (hbox); have n3_ := Aside0.mk ((by rw [hg]; exact (below_size (by repeat (first | (with_reducible first | exact HB.out | apply bA_ | apply bN_ | apply b1_) | exact HB.out))) : w.heap.size ≤ gb508)); have n4_ := n3_; clear HO_4; clear HB; have HO_4 := n0_; have HB := n1_; have BK508 := n2_; have GW508 := n3_; have GE508 := n4_; clear n0_ n1_ n2_ n3_ n4_; clear hb hbox hg; obtain ⟨hcz25_0, hcz25_1, hcz25_2, hcz25_3, hcz25_4, hcz25_5, hfz25_0, hfz25_1, hfz25_2, hfz25_3, hfz25_4, hfz25_5⟩ := blk6_ BK508.out)); try go_wp2_with (first | ((with_reducible refine gate_dst (N := 7) rfl ?_); refine box_event ?hg (N := 7) ?hd (cs := #[.int .i64 0, .int .i64 0, .int .i64 0, .int .i64 0, .int .i64 0, .int .i64 0]) (t := 45) ?hr ?_; (case hd => rfl); (case hg => rfl); (case hr => first | (go_simp; done) | (go_simp; rfl)); intro gb508 hg w24 hbox hb; have n0_ := Aside0.mk (Kd.R_below (by (with_reducible repeat (first | apply Kd.R_alloc | apply Kd.R_drewN | apply Kd.R_drew)); exact HO_4.out) hb); have n1_ := Aside0.mk (below_step (by repeat (first | (with_reducible first | exact HB.out | apply bA_ | apply bN_ | apply b1_) | exact HB.out)) hb); have n2_ := Aside0.mk (hbox); have n3_ := Aside0.mk ((by rw [hg]; exact (below_size (by repeat (first | (with_reducible first | exact HB.out | apply bA_ | apply bN_ | apply b1_) | exact HB.out))) : w.heap.size ≤ gb508)); have n4_ := n3_; clear HO_4; clear HB; have HO_4 := n0_; have HB := n1_; have BK508 := n2_; have GW508 := n3_; have GE508 := n4_; clear n0_ n1_ n2_ n3_ n4_; clear hb hbox hg; obtain ⟨hcz25_0, hcz25_1, hcz25_2, hcz25_3, hcz25_4, hcz25_5, hfz25_0, hfz25_1, hfz25_2, hfz25_3, hfz25_4, hfz25_5⟩ := blk6_ BK508.out)))
    go_roundg k1
    case measure => have := HK1.out; omega
    case rel => exact ⟨(x5_1), (wrap64 (x15_1 + 1)), (by first | rfl | (simp; done) | (simp [*]; done)), (by first | rfl | (simp; done) | (simp [*]; done)), H', ⟨by have := HK1.out; omega⟩, ⟨by (with_reducible repeat (first | apply Kd.R_alloc | apply Kd.R_drewN | apply Kd.R_drew)); exact Kd.R_mono (Kd.R_far (p := ⟨gb508, 5, none⟩) (Kd.R_far (p := ⟨gb508, 4, none⟩) (Kd.R_far (p := ⟨gb508, 3, none⟩) (Kd.R_far (p := ⟨gb508, 2, none⟩) (Kd.R_far (p := ⟨gb508, 1, none⟩) (Kd.R_far (p := ⟨gb508, 0, none⟩) (Kd.R_types HO_4.out BK508.out (by decide)) (fun _ hk => hk.2) (.int .i64 ((rd_T45 l0 x15_1).f0))) (fun _ hk => hk.2) (.int .i64 ((rd_T45 l0 x15_1).f1.f0))) (fun _ hk => hk.2) (.int .i64 ((rd_T45 l0 x15_1).f1.f1))) (fun _ hk => hk.2) (.int .i64 ((rd_T45 l0 x15_1).f2))) (fun _ hk => hk.2) (.int .i64 ((rd_T45 l0 x15_1).f3))) (fun _ hk => hk.2) (.int .i64 ((rd_T45 l0 x15_1).f4))) (fun _ hk => trivial)⟩, ⟨by repeat (first | (with_reducible first | exact HB.out | apply bA_ | apply bN_ | apply b1_ | refine below_set ?_ GE508.out) | exact HB.out)⟩⟩
   rw [if_pos c10] at H
   have c10b0 : decide (0 < ((rd_T45 l0 x15_1).f3)) = true := decide_eq_true c10
   clear c10
   by_cases c11 : x5_1 < 0
   case neg =>
    rw [if_neg c11] at H
    have c11b0 : decide (x5_1 < 0) = false := decide_eq_false c11
    clear c11
    by_cases c14 : x15_1 < (t504.length : Int)
    case neg =>
     rw [if_neg c14] at H
     exact absurd H (by simp)
    rw [if_pos c14] at H
    have c14b0 : decide (x15_1 < (t504.length : Int)) = true := decide_eq_true c14
    clear c14
    by_cases c15 : 0 ≤ x5_1
    case neg =>
     rw [if_neg c15] at H
     exact absurd H (by simp)
    rw [if_pos c15] at H
    have c15b0 : decide (0 ≤ x5_1) = true := decide_eq_true c15
    clear c15
    by_cases c16 : x5_1 < (t504.length : Int)
    case neg =>
     rw [if_neg c16] at H
     exact absurd H (by simp)
    rw [if_pos c16] at H
    have c16b0 : decide (x5_1 < (t504.length : Int)) = true := decide_eq_true c16
    clear c16
    by_cases c17 : (rd t504 x15_1) > (rd t504 x5_1)
    case neg =>
     rw [if_neg c17] at H
     have c17b0 : decide ((rd t504 x5_1) < (rd t504 x15_1)) = false := decide_eq_false c17
     clear c17
     have H' := Aside0.mk H
     clear H
     have p507 : 0 ≤ (x15_1 : Int) := of_decide_eq_true (by first|with_reducible assumption|assumption)
     have q507 : x15_1 < (l0.length : Int) := of_decide_eq_true (by first|with_reducible assumption|assumption)
     obtain ⟨ad507, e507, hx507_0, hx507_1, hx507_2, hx507_3, hx507_4, hx507_5⟩ := at_T45 HR0.out x15_1 p507 q507
     cases e507
     replace hx507_0 := cl_ HB.out hx507_0
     replace hx507_1 := cl_ HB.out hx507_1
     replace hx507_2 := cl_ HB.out hx507_2
     replace hx507_3 := cl_ HB.out hx507_3
     replace hx507_4 := cl_ HB.out hx507_4
     replace hx507_5 := cl_ HB.out hx507_5
     replace p507 := eq_true p507
     replace q507 := eq_true q507
     go_wp2_with (first | ((with_reducible refine gate_dst (N := 7) rfl ?_); refine box_event ?hg (N := 7) ?hd (cs := #[.int .i64 0, .int .i64 0, .int .i64 0, .int .i64 0, .int .i64 0, .int .i64 0]) (t := 45) ?hr ?_; (case hd => rfl); (case hg => rfl); (case hr => first | (go_simp; done) | (go_simp; rfl)); intro gb508 hg w21 hbox hb; have n0_ := Aside0.mk (Kd.R_below (by (with_reducible repeat (first | apply Kd.R_alloc | apply Kd.R_drewN | apply Kd.R_drew)); exact HO_4.out) hb); have n1_ := Aside0.mk (below_step (by repeat (first | (with_reducible first | exact HB.out | apply bA_ | apply bN_ | apply b1_) | exact HB.out)) hb); have n2_ := Aside0.mk (hbox); have n3_ := Aside0.mk ((by rw [hg]; exact (below_size (by repeat (first | (with_reducible first | exact HB.out | apply bA_ | apply bN_ | apply b1_) | exact HB.out))) : w.heap.size ≤ gb508)); have n4_ := n3_; clear HO_4; clear HB; have HO_4 := n0_; have HB := n1_; have BK508 := n2_; have GW508 := n3_; have GE508 := n4_; clear n0_ n1_ n2_ n3_ n4_; clear hb hbox hg; obtain ⟨hcz22_0, hcz22_1, hcz22_2, hcz22_3, hcz22_4, hcz22_5, hfz22_0, hfz22_1, hfz22_2, hfz22_3, hfz22_4, hfz22_5⟩ := blk6_ BK508.out; obtain ⟨Ao23, co23, eo23⟩ := Kd.R_slice HO_4.out; subst eo23; have p509 : 0 ≤ (x15_1 : Int) := of_decide_eq_true (by first|with_reducible assumption|assumption); have q509 : x15_1 < (t504.length : Int) := of_decide_eq_true (by first|with_reducible assumption|assumption); obtain ⟨ad509, e509, hx509_0⟩ := Kd.at_int (Kd.R_reads' HO_4.out).2.2 x15_1 p509 q509; cases e509; have hn509_0 : ad509.block ≠ gb508 := Kd.own_blk (Kd.R_ne HO_4.out BK508.out (by decide)); have hn509_1 : ad509.block ≠ gb508 := Kd.own_blk (Kd.R_ne HO_4.out BK508.out (by decide)); have hn509_2 : ad509.block ≠ gb508 := Kd.own_blk (Kd.R_ne HO_4.out BK508.out (by decide)); have hn509_3 : ad509.block ≠ gb508 := Kd.own_blk (Kd.R_ne HO_4.out BK508.out (by decide)); have hn509_4 : ad509.block ≠ gb508 := Kd.own_blk (Kd.R_ne HO_4.out BK508.out (by decide)); have hn509_5 : ad509.block ≠ gb508 := Kd.own_blk (Kd.R_ne HO_4.out BK508.out (by decide)); replace hx509_0 := (cell_far (p := ⟨gb508, 0, none⟩) (by first | exact ab_ hn509_0 | exact hn509_0) (.int .i64 ((rd_T45 l0 x15_1).f0))).trans hx509_0; replace hx509_0 := (cell_far (p := ⟨gb508, 1, none⟩) (by first | exact ab_ hn509_1 | exact hn509_1) (.int .i64 ((rd_T45 l0 x15_1).f1.f0))).trans hx509_0; replace hx509_0 := (cell_far (p := ⟨gb508, 2, none⟩) (by first | exact ab_ hn509_2 | exact hn509_2) (.int .i64 ((rd_T45 l0 x15_1).f1.f1))).trans hx509_0; replace hx509_0 := (cell_far (p := ⟨gb508, 3, none⟩) (by first | exact ab_ hn509_3 | exact hn509_3) (.int .i64 ((rd_T45 l0 x15_1).f2))).trans hx509_0; replace hx509_0 := (cell_far (p := ⟨gb508, 4, none⟩) (by first | exact ab_ hn509_4 | exact hn509_4) (.int .i64 ((rd_T45 l0 x15_1).f3))).trans hx509_0; replace hx509_0 := (cell_far (p := ⟨gb508, 5, none⟩) (by first | exact ab_ hn509_5 | exact hn509_5) (.int .i64 ((rd_T45 l0 x15_1).f4))).trans hx509_0; clear hn509_0; clear hn509_1; clear hn509_2; clear hn509_3; clear hn509_4; clear hn509_5; replace p509 := eq_true p509; replace q509 := eq_true q509; have p510 : 0 ≤ (x5_1 : Int) := of_decide_eq_true (by first|with_reducible assumption|assumption); have q510 : x5_1 < (t504.length : Int) := of_decide_eq_true (by first|with_reducible assumption|assumption); obtain ⟨ad510, e510, hx510_0⟩ := Kd.at_int (Kd.R_reads' HO_4.out).2.2 x5_1 p510 q510; obtain rfl : ad509 = ad510 := (by injection e510); have hn510_0 : ad509.block ≠ gb508 := Kd.own_blk (Kd.R_ne HO_4.out BK508.out (by decide)); have hn510_1 : ad509.block ≠ gb508 := Kd.own_blk (Kd.R_ne HO_4.out BK508.out (by decide)); have hn510_2 : ad509.block ≠ gb508 := Kd.own_blk (Kd.R_ne HO_4.out BK508.out (by decide)); have hn510_3 : ad509.block ≠ gb508 := Kd.own_blk (Kd.R_ne HO_4.out BK508.out (by decide)); have hn510_4 : ad509.block ≠ gb508 := Kd.own_blk (Kd.R_ne HO_4.out BK508.out (by decide)); have hn510_5 : ad509.block ≠ gb508 := Kd.own_blk (Kd.R_ne HO_4.out BK508.out (by decide)); replace hx510_0 := (cell_far (p := ⟨gb508, 0, none⟩) (by first | exact ab_ hn510_0 | exact hn510_0) (.int .i64 ((rd_T45 l0 x15_1).f0))).trans hx510_0; replace hx510_0 := (cell_far (p := ⟨gb508, 1, none⟩) (by first | exact ab_ hn510_1 | exact hn510_1) (.int .i64 ((rd_T45 l0 x15_1).f1.f0))).trans hx510_0; replace hx510_0 := (cell_far (p := ⟨gb508, 2, none⟩) (by first | exact ab_ hn510_2 | exact hn510_2) (.int .i64 ((rd_T45 l0 x15_1).f1.f1))).trans hx510_0; replace hx510_0 := (cell_far (p := ⟨gb508, 3, none⟩) (by first | exact ab_ hn510_3 | exact hn510_3) (.int .i64 ((rd_T45 l0 x15_1).f2))).trans hx510_0; replace hx510_0 := (cell_far (p := ⟨gb508, 4, none⟩) (by first | exact ab_ hn510_4 | exact hn510_4) (.int .i64 ((rd_T45 l0 x15_1).f3))).trans hx510_0; replace hx510_0 := (cell_far (p := ⟨gb508, 5, none⟩) (by first | exact ab_ hn510_5 | exact hn510_5) (.int .i64 ((rd_T45 l0 x15_1).f4))).trans hx510_0; clear hn510_0; clear hn510_1; clear hn510_2; clear hn510_3; clear hn510_4; clear hn510_5; replace p510 := eq_true p510; replace q510 := eq_true q510))
     repeat (go_quiet (first | ((with_reducible refine gate_dst (N := 7) rfl ?_); refine box_event ?hg (N := 7) ?hd (cs := #[.int .i64 0, .int .i64 0, .int .i64 0, .int .i64 0, .int .i64 0, .int .i64 0]) (t := 45) ?hr ?_; (case hd => rfl); (case hg => rfl); (case hr => first | (go_simp; done) | (go_simp; rfl)); intro gb508 hg w21 hbox hb; have n0_ := Aside0.mk (Kd.R_below (by (with_reducible repeat (first | apply Kd.R_alloc | apply Kd.R_drewN | apply Kd.R_drew)); exact HO_4.out) hb); have n1_ := Aside0.mk (below_step (by repeat (first | (with_reducible first | exact HB.out | apply bA_ | apply bN_ | apply b1_) | exact HB.out)) hb); have n2_ := Aside0.mk (hbox); have n3_ := Aside0.mk ((by rw [hg]; exact (below_size (by repeat (first | (with_reducible first | exact HB.out | apply bA_ | apply bN_ | apply b1_) | exact HB.out))) : w.heap.size ≤ gb508)); have n4_ := n3_; clear HO_4; clear HB; have HO_4 := n0_; have HB := n1_; have BK508 := n2_; have GW508 := n3_; have GE508 := n4_; clear n0_ n1_ n2_ n3_ n4_; clear hb hbox hg; obtain ⟨hcz22_0, hcz22_1, hcz22_2, hcz22_3, hcz22_4, hcz22_5, hfz22_0, hfz22_1, hfz22_2, hfz22_3, hfz22_4, hfz22_5⟩ := blk6_ BK508.out; obtain ⟨Ao23, co23, eo23⟩ := Kd.R_slice HO_4.out; subst eo23; have p509 : 0 ≤ (x15_1 : Int) := of_decide_eq_true (by first|with_reducible assumption|assumption); have q509 : x15_1 < (t504.length : Int) := of_decide_eq_true (by first|with_reducible assumption|assumption); obtain ⟨ad509, e509, hx509_0⟩ := Kd.at_int (Kd.R_reads' HO_4.out).2.2 x15_1 p509 q509; cases e509; have hn509_0 : ad509.block ≠ gb508 := Kd.own_blk (Kd.R_ne HO_4.out BK508.out (by decide)); have hn509_1 : ad509.block ≠ gb508 := Kd.own_blk (Kd.R_ne HO_4.out BK508.out (by decide)); have hn509_2 : ad509.block ≠ gb508 := Kd.own_blk (Kd.R_ne HO_4.out BK508.out (by decide)); have hn509_3 : ad509.block ≠ gb508 := Kd.own_blk (Kd.R_ne HO_4.out BK508.out (by decide)); have hn509_4 : ad509.block ≠ gb508 := Kd.own_blk (Kd.R_ne HO_4.out BK508.out (by decide)); have hn509_5 : ad509.block ≠ gb508 := Kd.own_blk (Kd.R_ne HO_4.out BK508.out (by decide)); replace hx509_0 := (cell_far (p := ⟨gb508, 0, none⟩) (by first | exact ab_ hn509_0 | exact hn509_0) (.int .i64 ((rd_T45 l0 x15_1).f0))).trans hx509_0; replace hx509_0 := (cell_far (p := ⟨gb508, 1, none⟩) (by first | exact ab_ hn509_1 | exact hn509_1) (.int .i64 ((rd_T45 l0 x15_1).f1.f0))).trans hx509_0; replace hx509_0 := (cell_far (p := ⟨gb508, 2, none⟩) (by first | exact ab_ hn509_2 | exact hn509_2) (.int .i64 ((rd_T45 l0 x15_1).f1.f1))).trans hx509_0; replace hx509_0 := (cell_far (p := ⟨gb508, 3, none⟩) (by first | exact ab_ hn509_3 | exact hn509_3) (.int .i64 ((rd_T45 l0 x15_1).f2))).trans hx509_0; replace hx509_0 := (cell_far (p := ⟨gb508, 4, none⟩) (by first | exact ab_ hn509_4 | exact hn509_4) (.int .i64 ((rd_T45 l0 x15_1).f3))).trans hx509_0; replace hx509_0 := (cell_far (p := ⟨gb508, 5, none⟩) (by first | exact ab_ hn509_5 | exact hn509_5) (.int .i64 ((rd_T45 l0 x15_1).f4))).trans hx509_0; clear hn509_0; clear hn509_1; clear hn509_2; clear hn509_3; clear hn509_4; clear hn509_5; replace p509 := eq_true p509; replace q509 := eq_true q509; have p510 : 0 ≤ (x5_1 : Int) := of_decide_eq_true (by first|with_reducible assumption|assumption); have q510 : x5_1 < (t504.length : Int) := of_decide_eq_true (by first|with_reducible assumption|assumption); obtain ⟨ad510, e510, hx510_0⟩ := Kd.at_int (Kd.R_reads' HO_4.out).2.2 x5_1 p510 q510; obtain rfl : ad509 = ad510 := (by injection e510); have hn510_0 : ad509.block ≠ gb508 := Kd.own_blk (Kd.R_ne HO_4.out BK508.out (by decide)); have hn510_1 : ad509.block ≠ gb508 := Kd.own_blk (Kd.R_ne HO_4.out BK508.out (by decide)); have hn510_2 : ad509.block ≠ gb508 := Kd.own_blk (Kd.R_ne HO_4.out BK508.out (by decide)); have hn510_3 : ad509.block ≠ gb508 := Kd.own_blk (Kd.R_ne HO_4.out BK508.out (by decide)); have hn510_4 : ad509.block ≠ gb508 := Kd.own_blk (Kd.R_ne HO_4.out BK508.out (by decide)); have hn510_5 : ad509.block ≠ gb508 := Kd.own_blk (Kd.R_ne HO_4.out BK508.out (by decide)); replace hx510_0 := (cell_far (p := ⟨gb508, 0, none⟩) (by first | exact ab_ hn510_0 | exact hn510_0) (.int .i64 ((rd_T45 l0 x15_1).f0))).trans hx510_0; replace hx510_0 := (cell_far (p := ⟨gb508, 1, none⟩) (by first | exact ab_ hn510_1 | exact hn510_1) (.int .i64 ((rd_T45 l0 x15_1).f1.f0))).trans hx510_0; replace hx510_0 := (cell_far (p := ⟨gb508, 2, none⟩) (by first | exact ab_ hn510_2 | exact hn510_2) (.int .i64 ((rd_T45 l0 x15_1).f1.f1))).trans hx510_0; replace hx510_0 := (cell_far (p := ⟨gb508, 3, none⟩) (by first | exact ab_ hn510_3 | exact hn510_3) (.int .i64 ((rd_T45 l0 x15_1).f2))).trans hx510_0; replace hx510_0 := (cell_far (p := ⟨gb508, 4, none⟩) (by first | exact ab_ hn510_4 | exact hn510_4) (.int .i64 ((rd_T45 l0 x15_1).f3))).trans hx510_0; replace hx510_0 := (cell_far (p := ⟨gb508, 5, none⟩) (by first | exact ab_ hn510_5 | exact hn510_5) (.int .i64 ((rd_T45 l0 x15_1).f4))).trans hx510_0; clear hn510_0; clear hn510_1; clear hn510_2; clear hn510_3; clear hn510_4; clear hn510_5; replace p510 := eq_true p510; replace q510 := eq_true q510)); try go_wp2_with (first | ((with_reducible refine gate_dst (N := 7) rfl ?_); refine box_event ?hg (N := 7) ?hd (cs := #[.int .i64 0, .int .i64 0, .int .i64 0, .int .i64 0, .int .i64 0, .int .i64 0]) (t := 45) ?hr ?_; (case hd => rfl); (case hg => rfl); (case hr => first | (go_simp; done) | (go_simp; rfl)); intro gb508 hg w21 hbox hb; have n0_ := Aside0.mk (Kd.R_below (by (with_reducible repeat (first | apply Kd.R_alloc | apply Kd.R_drewN | apply Kd.R_drew)); exact HO_4.out) hb); have n1_ := Aside0.mk (below_step (by repeat (first | (with_reducible first | exact HB.out | apply bA_ | apply bN_ | apply b1_) | exact HB.out)) hb); have n2_ := Aside0.mk (hbox); have n3_ := Aside0.mk ((by rw [hg]; exact (below_size (by repeat (first | (with_reducible first | exact HB.out | apply bA_ | apply bN_ | apply b1_) | exact HB.out))) : w.heap.size ≤ gb508)); have n4_ := n3_; clear HO_4; clear HB; have HO_4 := n0_; have HB := n1_; have BK508 := n2_; have GW508 := n3_; have GE508 := n4_; clear n0_ n1_ n2_ n3_ n4_; clear hb hbox hg; obtain ⟨hcz22_0, hcz22_1, hcz22_2, hcz22_3, hcz22_4, hcz22_5, hfz22_0, hfz22_1, hfz22_2, hfz22_3, hfz22_4, hfz22_5⟩ := blk6_ BK508.out; obtain ⟨Ao23, co23, eo23⟩ := Kd.R_slice HO_4.out; subst eo23; have p509 : 0 ≤ (x15_1 : Int) := of_decide_eq_true (by first|with_reducible assumption|assumption); have q509 : x15_1 < (t504.length : Int) := of_decide_eq_true (by first|with_reducible assumption|assumption); obtain ⟨ad509, e509, hx509_0⟩ := Kd.at_int (Kd.R_reads' HO_4.out).2.2 x15_1 p509 q509; cases e509; have hn509_0 : ad509.block ≠ gb508 := Kd.own_blk (Kd.R_ne HO_4.out BK508.out (by decide)); have hn509_1 : ad509.block ≠ gb508 := Kd.own_blk (Kd.R_ne HO_4.out BK508.out (by decide)); have hn509_2 : ad509.block ≠ gb508 := Kd.own_blk (Kd.R_ne HO_4.out BK508.out (by decide)); have hn509_3 : ad509.block ≠ gb508 := Kd.own_blk (Kd.R_ne HO_4.out BK508.out (by decide)); have hn509_4 : ad509.block ≠ gb508 := Kd.own_blk (Kd.R_ne HO_4.out BK508.out (by decide)); have hn509_5 : ad509.block ≠ gb508 := Kd.own_blk (Kd.R_ne HO_4.out BK508.out (by decide)); replace hx509_0 := (cell_far (p := ⟨gb508, 0, none⟩) (by first | exact ab_ hn509_0 | exact hn509_0) (.int .i64 ((rd_T45 l0 x15_1).f0))).trans hx509_0; replace hx509_0 := (cell_far (p := ⟨gb508, 1, none⟩) (by first | exact ab_ hn509_1 | exact hn509_1) (.int .i64 ((rd_T45 l0 x15_1).f1.f0))).trans hx509_0; replace hx509_0 := (cell_far (p := ⟨gb508, 2, none⟩) (by first | exact ab_ hn509_2 | exact hn509_2) (.int .i64 ((rd_T45 l0 x15_1).f1.f1))).trans hx509_0; replace hx509_0 := (cell_far (p := ⟨gb508, 3, none⟩) (by first | exact ab_ hn509_3 | exact hn509_3) (.int .i64 ((rd_T45 l0 x15_1).f2))).trans hx509_0; replace hx509_0 := (cell_far (p := ⟨gb508, 4, none⟩) (by first | exact ab_ hn509_4 | exact hn509_4) (.int .i64 ((rd_T45 l0 x15_1).f3))).trans hx509_0; replace hx509_0 := (cell_far (p := ⟨gb508, 5, none⟩) (by first | exact ab_ hn509_5 | exact hn509_5) (.int .i64 ((rd_T45 l0 x15_1).f4))).trans hx509_0; clear hn509_0; clear hn509_1; clear hn509_2; clear hn509_3; clear hn509_4; clear hn509_5; replace p509 := eq_true p509; replace q509 := eq_true q509; have p510 : 0 ≤ (x5_1 : Int) := of_decide_eq_true (by first|with_reducible assumption|assumption); have q510 : x5_1 < (t504.length : Int) := of_decide_eq_true (by first|with_reducible assumption|assumption); obtain ⟨ad510, e510, hx510_0⟩ := Kd.at_int (Kd.R_reads' HO_4.out).2.2 x5_1 p510 q510; obtain rfl : ad509 = ad510 := (by injection e510); have hn510_0 : ad509.block ≠ gb508 := Kd.own_blk (Kd.R_ne HO_4.out BK508.out (by decide)); have hn510_1 : ad509.block ≠ gb508 := Kd.own_blk (Kd.R_ne HO_4.out BK508.out (by decide)); have hn510_2 : ad509.block ≠ gb508 := Kd.own_blk (Kd.R_ne HO_4.out BK508.out (by decide)); have hn510_3 : ad509.block ≠ gb508 := Kd.own_blk (Kd.R_ne HO_4.out BK508.out (by decide)); have hn510_4 : ad509.block ≠ gb508 := Kd.own_blk (Kd.R_ne HO_4.out BK508.out (by decide)); have hn510_5 : ad509.block ≠ gb508 := Kd.own_blk (Kd.R_ne HO_4.out BK508.out (by decide)); replace hx510_0 := (cell_far (p := ⟨gb508, 0, none⟩) (by first | exact ab_ hn510_0 | exact hn510_0) (.int .i64 ((rd_T45 l0 x15_1).f0))).trans hx510_0; replace hx510_0 := (cell_far (p := ⟨gb508, 1, none⟩) (by first | exact ab_ hn510_1 | exact hn510_1) (.int .i64 ((rd_T45 l0 x15_1).f1.f0))).trans hx510_0; replace hx510_0 := (cell_far (p := ⟨gb508, 2, none⟩) (by first | exact ab_ hn510_2 | exact hn510_2) (.int .i64 ((rd_T45 l0 x15_1).f1.f1))).trans hx510_0; replace hx510_0 := (cell_far (p := ⟨gb508, 3, none⟩) (by first | exact ab_ hn510_3 | exact hn510_3) (.int .i64 ((rd_T45 l0 x15_1).f2))).trans hx510_0; replace hx510_0 := (cell_far (p := ⟨gb508, 4, none⟩) (by first | exact ab_ hn510_4 | exact hn510_4) (.int .i64 ((rd_T45 l0 x15_1).f3))).trans hx510_0; replace hx510_0 := (cell_far (p := ⟨gb508, 5, none⟩) (by first | exact ab_ hn510_5 | exact hn510_5) (.int .i64 ((rd_T45 l0 x15_1).f4))).trans hx510_0; clear hn510_0; clear hn510_1; clear hn510_2; clear hn510_3; clear hn510_4; clear hn510_5; replace p510 := eq_true p510; replace q510 := eq_true q510)))
     go_roundg k1
     case measure => have := HK1.out; omega
     case rel => exact ⟨(x5_1), (wrap64 (x15_1 + 1)), (by first | rfl | (simp; done) | (simp [*]; done)), (by first | rfl | (simp; done) | (simp [*]; done)), H', ⟨by have := HK1.out; omega⟩, ⟨by (with_reducible repeat (first | apply Kd.R_alloc | apply Kd.R_drewN | apply Kd.R_drew)); exact Kd.R_mono (Kd.R_far (p := ⟨gb508, 5, none⟩) (Kd.R_far (p := ⟨gb508, 4, none⟩) (Kd.R_far (p := ⟨gb508, 3, none⟩) (Kd.R_far (p := ⟨gb508, 2, none⟩) (Kd.R_far (p := ⟨gb508, 1, none⟩) (Kd.R_far (p := ⟨gb508, 0, none⟩) (Kd.R_types HO_4.out BK508.out (by decide)) (fun _ hk => hk.2) (.int .i64 ((rd_T45 l0 x15_1).f0))) (fun _ hk => hk.2) (.int .i64 ((rd_T45 l0 x15_1).f1.f0))) (fun _ hk => hk.2) (.int .i64 ((rd_T45 l0 x15_1).f1.f1))) (fun _ hk => hk.2) (.int .i64 ((rd_T45 l0 x15_1).f2))) (fun _ hk => hk.2) (.int .i64 ((rd_T45 l0 x15_1).f3))) (fun _ hk => hk.2) (.int .i64 ((rd_T45 l0 x15_1).f4))) (fun _ hk => trivial)⟩, ⟨by repeat (first | (with_reducible first | exact HB.out | apply bA_ | apply bN_ | apply b1_ | refine below_set ?_ GE508.out) | exact HB.out)⟩⟩
    rw [if_pos c17] at H
    have c17b0 : decide ((rd t504 x5_1) < (rd t504 x15_1)) = true := decide_eq_true c17
    clear c17
    have H' := Aside0.mk H
    clear H
    have p507 : 0 ≤ (x15_1 : Int) := of_decide_eq_true (by first|with_reducible assumption|assumption)
    have q507 : x15_1 < (l0.length : Int) := of_decide_eq_true (by first|with_reducible assumption|assumption)
    obtain ⟨ad507, e507, hx507_0, hx507_1, hx507_2, hx507_3, hx507_4, hx507_5⟩ := at_T45 HR0.out x15_1 p507 q507
    cases e507
    replace hx507_0 := cl_ HB.out hx507_0
    replace hx507_1 := cl_ HB.out hx507_1
    replace hx507_2 := cl_ HB.out hx507_2
    replace hx507_3 := cl_ HB.out hx507_3
    replace hx507_4 := cl_ HB.out hx507_4
    replace hx507_5 := cl_ HB.out hx507_5
    replace p507 := eq_true p507
    replace q507 := eq_true q507
    go_wp2_with (first | ((with_reducible refine gate_dst (N := 7) rfl ?_); refine box_event ?hg (N := 7) ?hd (cs := #[.int .i64 0, .int .i64 0, .int .i64 0, .int .i64 0, .int .i64 0, .int .i64 0]) (t := 45) ?hr ?_; (case hd => rfl); (case hg => rfl); (case hr => first | (go_simp; done) | (go_simp; rfl)); intro gb508 hg w18 hbox hb; have n0_ := Aside0.mk (Kd.R_below (by (with_reducible repeat (first | apply Kd.R_alloc | apply Kd.R_drewN | apply Kd.R_drew)); exact HO_4.out) hb); have n1_ := Aside0.mk (below_step (by repeat (first | (with_reducible first | exact HB.out | apply bA_ | apply bN_ | apply b1_) | exact HB.out)) hb); have n2_ := Aside0.mk (hbox); have n3_ := Aside0.mk ((by rw [hg]; exact (below_size (by repeat (first | (with_reducible first | exact HB.out | apply bA_ | apply bN_ | apply b1_) | exact HB.out))) : w.heap.size ≤ gb508)); have n4_ := n3_; clear HO_4; clear HB; have HO_4 := n0_; have HB := n1_; have BK508 := n2_; have GW508 := n3_; have GE508 := n4_; clear n0_ n1_ n2_ n3_ n4_; clear hb hbox hg; obtain ⟨hcz19_0, hcz19_1, hcz19_2, hcz19_3, hcz19_4, hcz19_5, hfz19_0, hfz19_1, hfz19_2, hfz19_3, hfz19_4, hfz19_5⟩ := blk6_ BK508.out; obtain ⟨Ao20, co20, eo20⟩ := Kd.R_slice HO_4.out; subst eo20; have p509 : 0 ≤ (x15_1 : Int) := of_decide_eq_true (by first|with_reducible assumption|assumption); have q509 : x15_1 < (t504.length : Int) := of_decide_eq_true (by first|with_reducible assumption|assumption); obtain ⟨ad509, e509, hx509_0⟩ := Kd.at_int (Kd.R_reads' HO_4.out).2.2 x15_1 p509 q509; cases e509; have hn509_0 : ad509.block ≠ gb508 := Kd.own_blk (Kd.R_ne HO_4.out BK508.out (by decide)); have hn509_1 : ad509.block ≠ gb508 := Kd.own_blk (Kd.R_ne HO_4.out BK508.out (by decide)); have hn509_2 : ad509.block ≠ gb508 := Kd.own_blk (Kd.R_ne HO_4.out BK508.out (by decide)); have hn509_3 : ad509.block ≠ gb508 := Kd.own_blk (Kd.R_ne HO_4.out BK508.out (by decide)); have hn509_4 : ad509.block ≠ gb508 := Kd.own_blk (Kd.R_ne HO_4.out BK508.out (by decide)); have hn509_5 : ad509.block ≠ gb508 := Kd.own_blk (Kd.R_ne HO_4.out BK508.out (by decide)); replace hx509_0 := (cell_far (p := ⟨gb508, 0, none⟩) (by first | exact ab_ hn509_0 | exact hn509_0) (.int .i64 ((rd_T45 l0 x15_1).f0))).trans hx509_0; replace hx509_0 := (cell_far (p := ⟨gb508, 1, none⟩) (by first | exact ab_ hn509_1 | exact hn509_1) (.int .i64 ((rd_T45 l0 x15_1).f1.f0))).trans hx509_0; replace hx509_0 := (cell_far (p := ⟨gb508, 2, none⟩) (by first | exact ab_ hn509_2 | exact hn509_2) (.int .i64 ((rd_T45 l0 x15_1).f1.f1))).trans hx509_0; replace hx509_0 := (cell_far (p := ⟨gb508, 3, none⟩) (by first | exact ab_ hn509_3 | exact hn509_3) (.int .i64 ((rd_T45 l0 x15_1).f2))).trans hx509_0; replace hx509_0 := (cell_far (p := ⟨gb508, 4, none⟩) (by first | exact ab_ hn509_4 | exact hn509_4) (.int .i64 ((rd_T45 l0 x15_1).f3))).trans hx509_0; replace hx509_0 := (cell_far (p := ⟨gb508, 5, none⟩) (by first | exact ab_ hn509_5 | exact hn509_5) (.int .i64 ((rd_T45 l0 x15_1).f4))).trans hx509_0; clear hn509_0; clear hn509_1; clear hn509_2; clear hn509_3; clear hn509_4; clear hn509_5; replace p509 := eq_true p509; replace q509 := eq_true q509; have p510 : 0 ≤ (x5_1 : Int) := of_decide_eq_true (by first|with_reducible assumption|assumption); have q510 : x5_1 < (t504.length : Int) := of_decide_eq_true (by first|with_reducible assumption|assumption); obtain ⟨ad510, e510, hx510_0⟩ := Kd.at_int (Kd.R_reads' HO_4.out).2.2 x5_1 p510 q510; obtain rfl : ad509 = ad510 := (by injection e510); have hn510_0 : ad509.block ≠ gb508 := Kd.own_blk (Kd.R_ne HO_4.out BK508.out (by decide)); have hn510_1 : ad509.block ≠ gb508 := Kd.own_blk (Kd.R_ne HO_4.out BK508.out (by decide)); have hn510_2 : ad509.block ≠ gb508 := Kd.own_blk (Kd.R_ne HO_4.out BK508.out (by decide)); have hn510_3 : ad509.block ≠ gb508 := Kd.own_blk (Kd.R_ne HO_4.out BK508.out (by decide)); have hn510_4 : ad509.block ≠ gb508 := Kd.own_blk (Kd.R_ne HO_4.out BK508.out (by decide)); have hn510_5 : ad509.block ≠ gb508 := Kd.own_blk (Kd.R_ne HO_4.out BK508.out (by decide)); replace hx510_0 := (cell_far (p := ⟨gb508, 0, none⟩) (by first | exact ab_ hn510_0 | exact hn510_0) (.int .i64 ((rd_T45 l0 x15_1).f0))).trans hx510_0; replace hx510_0 := (cell_far (p := ⟨gb508, 1, none⟩) (by first | exact ab_ hn510_1 | exact hn510_1) (.int .i64 ((rd_T45 l0 x15_1).f1.f0))).trans hx510_0; replace hx510_0 := (cell_far (p := ⟨gb508, 2, none⟩) (by first | exact ab_ hn510_2 | exact hn510_2) (.int .i64 ((rd_T45 l0 x15_1).f1.f1))).trans hx510_0; replace hx510_0 := (cell_far (p := ⟨gb508, 3, none⟩) (by first | exact ab_ hn510_3 | exact hn510_3) (.int .i64 ((rd_T45 l0 x15_1).f2))).trans hx510_0; replace hx510_0 := (cell_far (p := ⟨gb508, 4, none⟩) (by first | exact ab_ hn510_4 | exact hn510_4) (.int .i64 ((rd_T45 l0 x15_1).f3))).trans hx510_0; replace hx510_0 := (cell_far (p := ⟨gb508, 5, none⟩) (by first | exact ab_ hn510_5 | exact hn510_5) (.int .i64 ((rd_T45 l0 x15_1).f4))).trans hx510_0; clear hn510_0; clear hn510_1; clear hn510_2; clear hn510_3; clear hn510_4; clear hn510_5; replace p510 := eq_true p510; replace q510 := eq_true q510))
    repeat (go_quiet (first | ((with_reducible refine gate_dst (N := 7) rfl ?_); refine box_event ?hg (N := 7) ?hd (cs := #[.int .i64 0, .int .i64 0, .int .i64 0, .int .i64 0, .int .i64 0, .int .i64 0]) (t := 45) ?hr ?_; (case hd => rfl); (case hg => rfl); (case hr => first | (go_simp; done) | (go_simp; rfl)); intro gb508 hg w18 hbox hb; have n0_ := Aside0.mk (Kd.R_below (by (with_reducible repeat (first | apply Kd.R_alloc | apply Kd.R_drewN | apply Kd.R_drew)); exact HO_4.out) hb); have n1_ := Aside0.mk (below_step (by repeat (first | (with_reducible first | exact HB.out | apply bA_ | apply bN_ | apply b1_) | exact HB.out)) hb); have n2_ := Aside0.mk (hbox); have n3_ := Aside0.mk ((by rw [hg]; exact (below_size (by repeat (first | (with_reducible first | exact HB.out | apply bA_ | apply bN_ | apply b1_) | exact HB.out))) : w.heap.size ≤ gb508)); have n4_ := n3_; clear HO_4; clear HB; have HO_4 := n0_; have HB := n1_; have BK508 := n2_; have GW508 := n3_; have GE508 := n4_; clear n0_ n1_ n2_ n3_ n4_; clear hb hbox hg; obtain ⟨hcz19_0, hcz19_1, hcz19_2, hcz19_3, hcz19_4, hcz19_5, hfz19_0, hfz19_1, hfz19_2, hfz19_3, hfz19_4, hfz19_5⟩ := blk6_ BK508.out; obtain ⟨Ao20, co20, eo20⟩ := Kd.R_slice HO_4.out; subst eo20; have p509 : 0 ≤ (x15_1 : Int) := of_decide_eq_true (by first|with_reducible assumption|assumption); have q509 : x15_1 < (t504.length : Int) := of_decide_eq_true (by first|with_reducible assumption|assumption); obtain ⟨ad509, e509, hx509_0⟩ := Kd.at_int (Kd.R_reads' HO_4.out).2.2 x15_1 p509 q509; cases e509; have hn509_0 : ad509.block ≠ gb508 := Kd.own_blk (Kd.R_ne HO_4.out BK508.out (by decide)); have hn509_1 : ad509.block ≠ gb508 := Kd.own_blk (Kd.R_ne HO_4.out BK508.out (by decide)); have hn509_2 : ad509.block ≠ gb508 := Kd.own_blk (Kd.R_ne HO_4.out BK508.out (by decide)); have hn509_3 : ad509.block ≠ gb508 := Kd.own_blk (Kd.R_ne HO_4.out BK508.out (by decide)); have hn509_4 : ad509.block ≠ gb508 := Kd.own_blk (Kd.R_ne HO_4.out BK508.out (by decide)); have hn509_5 : ad509.block ≠ gb508 := Kd.own_blk (Kd.R_ne HO_4.out BK508.out (by decide)); replace hx509_0 := (cell_far (p := ⟨gb508, 0, none⟩) (by first | exact ab_ hn509_0 | exact hn509_0) (.int .i64 ((rd_T45 l0 x15_1).f0))).trans hx509_0; replace hx509_0 := (cell_far (p := ⟨gb508, 1, none⟩) (by first | exact ab_ hn509_1 | exact hn509_1) (.int .i64 ((rd_T45 l0 x15_1).f1.f0))).trans hx509_0; replace hx509_0 := (cell_far (p := ⟨gb508, 2, none⟩) (by first | exact ab_ hn509_2 | exact hn509_2) (.int .i64 ((rd_T45 l0 x15_1).f1.f1))).trans hx509_0; replace hx509_0 := (cell_far (p := ⟨gb508, 3, none⟩) (by first | exact ab_ hn509_3 | exact hn509_3) (.int .i64 ((rd_T45 l0 x15_1).f2))).trans hx509_0; replace hx509_0 := (cell_far (p := ⟨gb508, 4, none⟩) (by first | exact ab_ hn509_4 | exact hn509_4) (.int .i64 ((rd_T45 l0 x15_1).f3))).trans hx509_0; replace hx509_0 := (cell_far (p := ⟨gb508, 5, none⟩) (by first | exact ab_ hn509_5 | exact hn509_5) (.int .i64 ((rd_T45 l0 x15_1).f4))).trans hx509_0; clear hn509_0; clear hn509_1; clear hn509_2; clear hn509_3; clear hn509_4; clear hn509_5; replace p509 := eq_true p509; replace q509 := eq_true q509; have p510 : 0 ≤ (x5_1 : Int) := of_decide_eq_true (by first|with_reducible assumption|assumption); have q510 : x5_1 < (t504.length : Int) := of_decide_eq_true (by first|with_reducible assumption|assumption); obtain ⟨ad510, e510, hx510_0⟩ := Kd.at_int (Kd.R_reads' HO_4.out).2.2 x5_1 p510 q510; obtain rfl : ad509 = ad510 := (by injection e510); have hn510_0 : ad509.block ≠ gb508 := Kd.own_blk (Kd.R_ne HO_4.out BK508.out (by decide)); have hn510_1 : ad509.block ≠ gb508 := Kd.own_blk (Kd.R_ne HO_4.out BK508.out (by decide)); have hn510_2 : ad509.block ≠ gb508 := Kd.own_blk (Kd.R_ne HO_4.out BK508.out (by decide)); have hn510_3 : ad509.block ≠ gb508 := Kd.own_blk (Kd.R_ne HO_4.out BK508.out (by decide)); have hn510_4 : ad509.block ≠ gb508 := Kd.own_blk (Kd.R_ne HO_4.out BK508.out (by decide)); have hn510_5 : ad509.block ≠ gb508 := Kd.own_blk (Kd.R_ne HO_4.out BK508.out (by decide)); replace hx510_0 := (cell_far (p := ⟨gb508, 0, none⟩) (by first | exact ab_ hn510_0 | exact hn510_0) (.int .i64 ((rd_T45 l0 x15_1).f0))).trans hx510_0; replace hx510_0 := (cell_far (p := ⟨gb508, 1, none⟩) (by first | exact ab_ hn510_1 | exact hn510_1) (.int .i64 ((rd_T45 l0 x15_1).f1.f0))).trans hx510_0; replace hx510_0 := (cell_far (p := ⟨gb508, 2, none⟩) (by first | exact ab_ hn510_2 | exact hn510_2) (.int .i64 ((rd_T45 l0 x15_1).f1.f1))).trans hx510_0; replace hx510_0 := (cell_far (p := ⟨gb508, 3, none⟩) (by first | exact ab_ hn510_3 | exact hn510_3) (.int .i64 ((rd_T45 l0 x15_1).f2))).trans hx510_0; replace hx510_0 := (cell_far (p := ⟨gb508, 4, none⟩) (by first | exact ab_ hn510_4 | exact hn510_4) (.int .i64 ((rd_T45 l0 x15_1).f3))).trans hx510_0; replace hx510_0 := (cell_far (p := ⟨gb508, 5, none⟩) (by first | exact ab_ hn510_5 | exact hn510_5) (.int .i64 ((rd_T45 l0 x15_1).f4))).trans hx510_0; clear hn510_0; clear hn510_1; clear hn510_2; clear hn510_3; clear hn510_4; clear hn510_5; replace p510 := eq_true p510; replace q510 := eq_true q510)); try go_wp2_with (first | ((with_reducible refine gate_dst (N := 7) rfl ?_); refine box_event ?hg (N := 7) ?hd (cs := #[.int .i64 0, .int .i64 0, .int .i64 0, .int .i64 0, .int .i64 0, .int .i64 0]) (t := 45) ?hr ?_; (case hd => rfl); (case hg => rfl); (case hr => first | (go_simp; done) | (go_simp; rfl)); intro gb508 hg w18 hbox hb; have n0_ := Aside0.mk (Kd.R_below (by (with_reducible repeat (first | apply Kd.R_alloc | apply Kd.R_drewN | apply Kd.R_drew)); exact HO_4.out) hb); have n1_ := Aside0.mk (below_step (by repeat (first | (with_reducible first | exact HB.out | apply bA_ | apply bN_ | apply b1_) | exact HB.out)) hb); have n2_ := Aside0.mk (hbox); have n3_ := Aside0.mk ((by rw [hg]; exact (below_size (by repeat (first | (with_reducible first | exact HB.out | apply bA_ | apply bN_ | apply b1_) | exact HB.out))) : w.heap.size ≤ gb508)); have n4_ := n3_; clear HO_4; clear HB; have HO_4 := n0_; have HB := n1_; have BK508 := n2_; have GW508 := n3_; have GE508 := n4_; clear n0_ n1_ n2_ n3_ n4_; clear hb hbox hg; obtain ⟨hcz19_0, hcz19_1, hcz19_2, hcz19_3, hcz19_4, hcz19_5, hfz19_0, hfz19_1, hfz19_2, hfz19_3, hfz19_4, hfz19_5⟩ := blk6_ BK508.out; obtain ⟨Ao20, co20, eo20⟩ := Kd.R_slice HO_4.out; subst eo20; have p509 : 0 ≤ (x15_1 : Int) := of_decide_eq_true (by first|with_reducible assumption|assumption); have q509 : x15_1 < (t504.length : Int) := of_decide_eq_true (by first|with_reducible assumption|assumption); obtain ⟨ad509, e509, hx509_0⟩ := Kd.at_int (Kd.R_reads' HO_4.out).2.2 x15_1 p509 q509; cases e509; have hn509_0 : ad509.block ≠ gb508 := Kd.own_blk (Kd.R_ne HO_4.out BK508.out (by decide)); have hn509_1 : ad509.block ≠ gb508 := Kd.own_blk (Kd.R_ne HO_4.out BK508.out (by decide)); have hn509_2 : ad509.block ≠ gb508 := Kd.own_blk (Kd.R_ne HO_4.out BK508.out (by decide)); have hn509_3 : ad509.block ≠ gb508 := Kd.own_blk (Kd.R_ne HO_4.out BK508.out (by decide)); have hn509_4 : ad509.block ≠ gb508 := Kd.own_blk (Kd.R_ne HO_4.out BK508.out (by decide)); have hn509_5 : ad509.block ≠ gb508 := Kd.own_blk (Kd.R_ne HO_4.out BK508.out (by decide)); replace hx509_0 := (cell_far (p := ⟨gb508, 0, none⟩) (by first | exact ab_ hn509_0 | exact hn509_0) (.int .i64 ((rd_T45 l0 x15_1).f0))).trans hx509_0; replace hx509_0 := (cell_far (p := ⟨gb508, 1, none⟩) (by first | exact ab_ hn509_1 | exact hn509_1) (.int .i64 ((rd_T45 l0 x15_1).f1.f0))).trans hx509_0; replace hx509_0 := (cell_far (p := ⟨gb508, 2, none⟩) (by first | exact ab_ hn509_2 | exact hn509_2) (.int .i64 ((rd_T45 l0 x15_1).f1.f1))).trans hx509_0; replace hx509_0 := (cell_far (p := ⟨gb508, 3, none⟩) (by first | exact ab_ hn509_3 | exact hn509_3) (.int .i64 ((rd_T45 l0 x15_1).f2))).trans hx509_0; replace hx509_0 := (cell_far (p := ⟨gb508, 4, none⟩) (by first | exact ab_ hn509_4 | exact hn509_4) (.int .i64 ((rd_T45 l0 x15_1).f3))).trans hx509_0; replace hx509_0 := (cell_far (p := ⟨gb508, 5, none⟩) (by first | exact ab_ hn509_5 | exact hn509_5) (.int .i64 ((rd_T45 l0 x15_1).f4))).trans hx509_0; clear hn509_0; clear hn509_1; clear hn509_2; clear hn509_3; clear hn509_4; clear hn509_5; replace p509 := eq_true p509; replace q509 := eq_true q509; have p510 : 0 ≤ (x5_1 : Int) := of_decide_eq_true (by first|with_reducible assumption|assumption); have q510 : x5_1 < (t504.length : Int) := of_decide_eq_true (by first|with_reducible assumption|assumption); obtain ⟨ad510, e510, hx510_0⟩ := Kd.at_int (Kd.R_reads' HO_4.out).2.2 x5_1 p510 q510; obtain rfl : ad509 = ad510 := (by injection e510); have hn510_0 : ad509.block ≠ gb508 := Kd.own_blk (Kd.R_ne HO_4.out BK508.out (by decide)); have hn510_1 : ad509.block ≠ gb508 := Kd.own_blk (Kd.R_ne HO_4.out BK508.out (by decide)); have hn510_2 : ad509.block ≠ gb508 := Kd.own_blk (Kd.R_ne HO_4.out BK508.out (by decide)); have hn510_3 : ad509.block ≠ gb508 := Kd.own_blk (Kd.R_ne HO_4.out BK508.out (by decide)); have hn510_4 : ad509.block ≠ gb508 := Kd.own_blk (Kd.R_ne HO_4.out BK508.out (by decide)); have hn510_5 : ad509.block ≠ gb508 := Kd.own_blk (Kd.R_ne HO_4.out BK508.out (by decide)); replace hx510_0 := (cell_far (p := ⟨gb508, 0, none⟩) (by first | exact ab_ hn510_0 | exact hn510_0) (.int .i64 ((rd_T45 l0 x15_1).f0))).trans hx510_0; replace hx510_0 := (cell_far (p := ⟨gb508, 1, none⟩) (by first | exact ab_ hn510_1 | exact hn510_1) (.int .i64 ((rd_T45 l0 x15_1).f1.f0))).trans hx510_0; replace hx510_0 := (cell_far (p := ⟨gb508, 2, none⟩) (by first | exact ab_ hn510_2 | exact hn510_2) (.int .i64 ((rd_T45 l0 x15_1).f1.f1))).trans hx510_0; replace hx510_0 := (cell_far (p := ⟨gb508, 3, none⟩) (by first | exact ab_ hn510_3 | exact hn510_3) (.int .i64 ((rd_T45 l0 x15_1).f2))).trans hx510_0; replace hx510_0 := (cell_far (p := ⟨gb508, 4, none⟩) (by first | exact ab_ hn510_4 | exact hn510_4) (.int .i64 ((rd_T45 l0 x15_1).f3))).trans hx510_0; replace hx510_0 := (cell_far (p := ⟨gb508, 5, none⟩) (by first | exact ab_ hn510_5 | exact hn510_5) (.int .i64 ((rd_T45 l0 x15_1).f4))).trans hx510_0; clear hn510_0; clear hn510_1; clear hn510_2; clear hn510_3; clear hn510_4; clear hn510_5; replace p510 := eq_true p510; replace q510 := eq_true q510)))
    go_roundg k1
    case measure => have := HK1.out; omega
    case rel => exact ⟨(x15_1), (wrap64 (x15_1 + 1)), (by first | rfl | (simp; done) | (simp [*]; done)), (by first | rfl | (simp; done) | (simp [*]; done)), H', ⟨by have := HK1.out; omega⟩, ⟨by (with_reducible repeat (first | apply Kd.R_alloc | apply Kd.R_drewN | apply Kd.R_drew)); exact Kd.R_mono (Kd.R_far (p := ⟨gb508, 5, none⟩) (Kd.R_far (p := ⟨gb508, 4, none⟩) (Kd.R_far (p := ⟨gb508, 3, none⟩) (Kd.R_far (p := ⟨gb508, 2, none⟩) (Kd.R_far (p := ⟨gb508, 1, none⟩) (Kd.R_far (p := ⟨gb508, 0, none⟩) (Kd.R_types HO_4.out BK508.out (by decide)) (fun _ hk => hk.2) (.int .i64 ((rd_T45 l0 x15_1).f0))) (fun _ hk => hk.2) (.int .i64 ((rd_T45 l0 x15_1).f1.f0))) (fun _ hk => hk.2) (.int .i64 ((rd_T45 l0 x15_1).f1.f1))) (fun _ hk => hk.2) (.int .i64 ((rd_T45 l0 x15_1).f2))) (fun _ hk => hk.2) (.int .i64 ((rd_T45 l0 x15_1).f3))) (fun _ hk => hk.2) (.int .i64 ((rd_T45 l0 x15_1).f4))) (fun _ hk => trivial)⟩, ⟨by repeat (first | (with_reducible first | exact HB.out | apply bA_ | apply bN_ | apply b1_ | refine below_set ?_ GE508.out) | exact HB.out)⟩⟩
   rw [if_pos c11] at H
   have c11b0 : decide (x5_1 < 0) = true := decide_eq_true c11
   clear c11
   have H' := Aside0.mk H
   clear H
   have p507 : 0 ≤ (x15_1 : Int) := of_decide_eq_true (by first|with_reducible assumption|assumption)
   have q507 : x15_1 < (l0.length : Int) := of_decide_eq_true (by first|with_reducible assumption|assumption)
   obtain ⟨ad507, e507, hx507_0, hx507_1, hx507_2, hx507_3, hx507_4, hx507_5⟩ := at_T45 HR0.out x15_1 p507 q507
   cases e507
   replace hx507_0 := cl_ HB.out hx507_0
   replace hx507_1 := cl_ HB.out hx507_1
   replace hx507_2 := cl_ HB.out hx507_2
   replace hx507_3 := cl_ HB.out hx507_3
   replace hx507_4 := cl_ HB.out hx507_4
   replace hx507_5 := cl_ HB.out hx507_5
   replace p507 := eq_true p507
   replace q507 := eq_true q507
   go_wp2_with (first | ((with_reducible refine gate_dst (N := 7) rfl ?_); refine box_event ?hg (N := 7) ?hd (cs := #[.int .i64 0, .int .i64 0, .int .i64 0, .int .i64 0, .int .i64 0, .int .i64 0]) (t := 45) ?hr ?_; (case hd => rfl); (case hg => rfl); (case hr => first | (go_simp; done) | (go_simp; rfl)); intro gb508 hg w12 hbox hb; have n0_ := Aside0.mk (Kd.R_below (by (with_reducible repeat (first | apply Kd.R_alloc | apply Kd.R_drewN | apply Kd.R_drew)); exact HO_4.out) hb); have n1_ := Aside0.mk (below_step (by repeat (first | (with_reducible first | exact HB.out | apply bA_ | apply bN_ | apply b1_) | exact HB.out)) hb); have n2_ := Aside0.mk (hbox); have n3_ := Aside0.mk ((by rw [hg]; exact (below_size (by repeat (first | (with_reducible first | exact HB.out | apply bA_ | apply bN_ | apply b1_) | exact HB.out))) : w.heap.size ≤ gb508)); have n4_ := n3_; clear HO_4; clear HB; have HO_4 := n0_; have HB := n1_; have BK508 := n2_; have GW508 := n3_; have GE508 := n4_; clear n0_ n1_ n2_ n3_ n4_; clear hb hbox hg; obtain ⟨hcz13_0, hcz13_1, hcz13_2, hcz13_3, hcz13_4, hcz13_5, hfz13_0, hfz13_1, hfz13_2, hfz13_3, hfz13_4, hfz13_5⟩ := blk6_ BK508.out))
   repeat (go_quiet (first | ((with_reducible refine gate_dst (N := 7) rfl ?_); refine box_event ?hg (N := 7) ?hd (cs := #[.int .i64 0, .int .i64 0, .int .i64 0, .int .i64 0, .int .i64 0, .int .i64 0]) (t := 45) ?hr ?_; (case hd => rfl); (case hg => rfl); (case hr => first | (go_simp; done) | (go_simp; rfl)); intro gb508 hg w12 hbox hb; have n0_ := Aside0.mk (Kd.R_below (by (with_reducible repeat (first | apply Kd.R_alloc | apply Kd.R_drewN | apply Kd.R_drew)); exact HO_4.out) hb); have n1_ := Aside0.mk (below_step (by repeat (first | (with_reducible first | exact HB.out | apply bA_ | apply bN_ | apply b1_) | exact HB.out)) hb); have n2_ := Aside0.mk (hbox); have n3_ := Aside0.mk ((by rw [hg]; exact (below_size (by repeat (first | (with_reducible first | exact HB.out | apply bA_ | apply bN_ | apply b1_) | exact HB.out))) : w.heap.size ≤ gb508)); have n4_ := n3_; clear HO_4; clear HB; have HO_4 := n0_; have HB := n1_; have BK508 := n2_; have GW508 := n3_; have GE508 := n4_; clear n0_ n1_ n2_ n3_ n4_; clear hb hbox hg; obtain ⟨hcz13_0, hcz13_1, hcz13_2, hcz13_3, hcz13_4, hcz13_5, hfz13_0, hfz13_1, hfz13_2, hfz13_3, hfz13_4, hfz13_5⟩ := blk6_ BK508.out)); try go_wp2_with (first | ((with_reducible refine gate_dst (N := 7) rfl ?_); refine box_event ?hg (N := 7) ?hd (cs := #[.int .i64 0, .int .i64 0, .int .i64 0, .int .i64 0, .int .i64 0, .int .i64 0]) (t := 45) ?hr ?_; (case hd => rfl); (case hg => rfl); (case hr => first | (go_simp; done) | (go_simp; rfl)); intro gb508 hg w12 hbox hb; have n0_ := Aside0.mk (Kd.R_below (by (with_reducible repeat (first | apply Kd.R_alloc | apply Kd.R_drewN | apply Kd.R_drew)); exact HO_4.out) hb); have n1_ := Aside0.mk (below_step (by repeat (first | (with_reducible first | exact HB.out | apply bA_ | apply bN_ | apply b1_) | exact HB.out)) hb); have n2_ := Aside0.mk (hbox); have n3_ := Aside0.mk ((by rw [hg]; exact (below_size (by repeat (first | (with_reducible first | exact HB.out | apply bA_ | apply bN_ | apply b1_) | exact HB.out))) : w.heap.size ≤ gb508)); have n4_ := n3_; clear HO_4; clear HB; have HO_4 := n0_; have HB := n1_; have BK508 := n2_; have GW508 := n3_; have GE508 := n4_; clear n0_ n1_ n2_ n3_ n4_; clear hb hbox hg; obtain ⟨hcz13_0, hcz13_1, hcz13_2, hcz13_3, hcz13_4, hcz13_5, hfz13_0, hfz13_1, hfz13_2, hfz13_3, hfz13_4, hfz13_5⟩ := blk6_ BK508.out)))
   go_roundg k1
   case measure => have := HK1.out; omega
   case rel => exact ⟨(x15_1), (wrap64 (x15_1 + 1)), (by first | rfl | (simp; done) | (simp [*]; done)), (by first | rfl | (simp; done) | (simp [*]; done)), H', ⟨by have := HK1.out; omega⟩, ⟨by (with_reducible repeat (first | apply Kd.R_alloc | apply Kd.R_drewN | apply Kd.R_drew)); exact Kd.R_mono (Kd.R_far (p := ⟨gb508, 5, none⟩) (Kd.R_far (p := ⟨gb508, 4, none⟩) (Kd.R_far (p := ⟨gb508, 3, none⟩) (Kd.R_far (p := ⟨gb508, 2, none⟩) (Kd.R_far (p := ⟨gb508, 1, none⟩) (Kd.R_far (p := ⟨gb508, 0, none⟩) (Kd.R_types HO_4.out BK508.out (by decide)) (fun _ hk => hk.2) (.int .i64 ((rd_T45 l0 x15_1).f0))) (fun _ hk => hk.2) (.int .i64 ((rd_T45 l0 x15_1).f1.f0))) (fun _ hk => hk.2) (.int .i64 ((rd_T45 l0 x15_1).f1.f1))) (fun _ hk => hk.2) (.int .i64 ((rd_T45 l0 x15_1).f2))) (fun _ hk => hk.2) (.int .i64 ((rd_T45 l0 x15_1).f3))) (fun _ hk => hk.2) (.int .i64 ((rd_T45 l0 x15_1).f4))) (fun _ hk => trivial)⟩, ⟨by repeat (first | (with_reducible first | exact HB.out | apply bA_ | apply bN_ | apply b1_ | refine below_set ?_ GE508.out) | exact HB.out)⟩⟩

/-! ### laws_FnExactHardestBranch: function 8 -/
def laws_FnExactHardestBranch.j0 : Nat → List (S40) → List (S45) → Bool → Option (Bool)
  | 0, _, _, _ => none
  | k + 1, x0, x6, x34 => if x34 = true then (some false) else ((laws_toLinePartS.f k x0).bind fun t522 => ((laws_eqLinePartS.f k x6 t522).bind fun t525 => (if t525 = true then (some true) else (some false))))
def laws_FnExactHardestBranch.f (k : Nat) (l0 : List (S40)) : Option (Bool) := (laws_szLinePartS.f l0 1048576).bind fun t511 => (if t511 < 0 then (some true) else ((laws_toLinePartS.f k l0).bind fun t512 => ((spec_HardestBranch.f k t512).bind fun bt515 => ((laws_toLinePartS.f k l0).bind fun t517 => ((impl_HardestBranch.f k t517).bind fun bt520 => (if bt520.1 = bt515.1 then (laws_FnExactHardestBranch.j0 k l0 t517 (bt520.2 != bt515.2)) else (laws_FnExactHardestBranch.j0 k l0 t517 true)))))))
theorem laws_FnExactHardestBranch.mono_l : ∀ k, (∀ y0 y1 y2, LeO (laws_FnExactHardestBranch.j0 k y0 y1 y2) (laws_FnExactHardestBranch.j0 (k + 1) y0 y1 y2))
 | 0 => fun _ _ _ r h => by simp [laws_FnExactHardestBranch.j0] at h
 | k + 1 => by
  have ih0 := laws_FnExactHardestBranch.mono_l k
  · intro y0 y1 y2
    unfold laws_FnExactHardestBranch.j0
    repeat' first
    | (with_reducible exact ih0 _ _ _)
    | (with_reducible exact impl_HardestBranch.mono _ _)
    | (with_reducible exact laws_eqLinePartS.mono _ _ _)
    | (with_reducible exact laws_toLinePartS.mono _ _)
    | (with_reducible exact spec_HardestBranch.mono _ _)
    | (with_reducible exact LeO.refl _)
    | (with_reducible exact LeO.none _)
    | (with_reducible refine LeO.ite ?_ ?_)
    | (with_reducible refine LeO.bind ?_ (fun _ => ?_))
    | exact ih0 _ _ _
    | exact impl_HardestBranch.mono _ _
    | exact laws_eqLinePartS.mono _ _ _
    | exact laws_toLinePartS.mono _ _
    | exact spec_HardestBranch.mono _ _
    | exact LeO.none _
    | refine LeO.ite ?_ ?_
    | refine LeO.bind ?_ (fun _ => ?_)
theorem laws_FnExactHardestBranch.mono : ∀ a0 k, LeO (laws_FnExactHardestBranch.f k a0) (laws_FnExactHardestBranch.f (k + 1) a0) := by
 intro a0 k
 have ih0 := laws_FnExactHardestBranch.mono_l k
 unfold laws_FnExactHardestBranch.f
 repeat' first
  | (with_reducible exact ih0 _ _ _)
  | (with_reducible exact impl_HardestBranch.mono _ _)
  | (with_reducible exact laws_eqLinePartS.mono _ _ _)
  | (with_reducible exact laws_toLinePartS.mono _ _)
  | (with_reducible exact spec_HardestBranch.mono _ _)
  | (with_reducible exact LeO.refl _)
  | (with_reducible exact LeO.none _)
  | (with_reducible refine LeO.ite ?_ ?_)
  | (with_reducible refine LeO.bind ?_ (fun _ => ?_))
  | exact ih0 _ _ _
  | exact impl_HardestBranch.mono _ _
  | exact laws_eqLinePartS.mono _ _ _
  | exact laws_toLinePartS.mono _ _
  | exact spec_HardestBranch.mono _ _
  | exact LeO.none _
  | refine LeO.ite ?_ ?_
  | refine LeO.bind ?_ (fun _ => ?_)
set_option maxHeartbeats 8000000 in
set_option maxRecDepth 100000 in
theorem laws_FnExactHardestBranch.calls (k : Nat) (A0 : Option Addr) (c0 : Nat) (l0 : List (S40)) (r : Bool) (w : World) (hr0 : Kd.C k40 w A0 l0.length l0) (hc0 : l0.length ≤ c0) (h : laws_FnExactHardestBranch.f k l0 = some r) :
  Calls Try.prog 8 #[.slice A0 l0.length c0] w fun e w' => e = .returned (.bool r) ∧ Below w.heap.size w w' := by
 have HR0 := Aside0.mk hr0
 have HC0 := Aside0.mk hc0
 clear hr0 hc0
 have HB := Aside0.mk (Below.refl w.heap.size w)
 have H : ((laws_szLinePartS.f l0 1048576).bind fun t511 => (if t511 < 0 then (some true) else ((laws_toLinePartS.f k l0).bind fun t512 => ((spec_HardestBranch.f k t512).bind fun bt515 => ((laws_toLinePartS.f k l0).bind fun t517 => ((impl_HardestBranch.f k t517).bind fun bt520 => (if bt520.1 = bt515.1 then (laws_FnExactHardestBranch.j0 k l0 t517 (bt520.2 != bt515.2)) else (laws_FnExactHardestBranch.j0 k l0 t517 true)))))))) = some r := h
 clear h
 replace H := Option.bind_eq_some_iff.mp H
 obtain ⟨t511, A20, H⟩ := H
 replace H : (if t511 < 0 then (some true) else ((laws_toLinePartS.f k l0).bind fun t512 => ((spec_HardestBranch.f k t512).bind fun bt515 => ((laws_toLinePartS.f k l0).bind fun t517 => ((impl_HardestBranch.f k t517).bind fun bt520 => (if bt520.1 = bt515.1 then (laws_FnExactHardestBranch.j0 k l0 t517 (bt520.2 != bt515.2)) else (laws_FnExactHardestBranch.j0 k l0 t517 true))))))) = some r := H
 have A2 := Aside0.mk A20
 clear A20
 by_cases c3 : t511 < 0
 case neg =>
  rw [if_neg c3] at H
  have c3b0 : decide (t511 < 0) = false := decide_eq_false c3
  clear c3
  replace H := Option.bind_eq_some_iff.mp H
  obtain ⟨t512, A40, H⟩ := H
  replace H : ((spec_HardestBranch.f k t512).bind fun bt515 => ((laws_toLinePartS.f k l0).bind fun t517 => ((impl_HardestBranch.f k t517).bind fun bt520 => (if bt520.1 = bt515.1 then (laws_FnExactHardestBranch.j0 k l0 t517 (bt520.2 != bt515.2)) else (laws_FnExactHardestBranch.j0 k l0 t517 true))))) = some r := H
  have A4 := Aside0.mk A40
  clear A40
  replace H := Option.bind_eq_some_iff.mp H
  obtain ⟨⟨t515, t516⟩, A50, H⟩ := H
  replace H : ((laws_toLinePartS.f k l0).bind fun t517 => ((impl_HardestBranch.f k t517).bind fun bt520 => (if bt520.1 = t515 then (laws_FnExactHardestBranch.j0 k l0 t517 (bt520.2 != t516)) else (laws_FnExactHardestBranch.j0 k l0 t517 true)))) = some r := H
  have A5 := Aside0.mk A50
  clear A50
  replace H := Option.bind_eq_some_iff.mp H
  obtain ⟨t517, A60, H⟩ := H
  replace H : ((impl_HardestBranch.f k t517).bind fun bt520 => (if bt520.1 = t515 then (laws_FnExactHardestBranch.j0 k l0 t517 (bt520.2 != t516)) else (laws_FnExactHardestBranch.j0 k l0 t517 true))) = some r := H
  have A6 := Aside0.mk A60
  clear A60
  replace H := Option.bind_eq_some_iff.mp H
  obtain ⟨⟨t520, t521⟩, A70, H⟩ := H
  replace H : (if t520 = t515 then (laws_FnExactHardestBranch.j0 k l0 t517 (t521 != t516)) else (laws_FnExactHardestBranch.j0 k l0 t517 true)) = some r := H
  have A7 := Aside0.mk A70
  clear A70
  have HC8 := Aside0.mk H
  clear H
  go_enter Try.func8, Try.ntmps8
  go_upto_region 8 with (first | ((with_reducible refine gate_callee (f := 15) rfl ?_); refine goesL_ (some 11) rfl rfl Try.func15 (by kernel_rfl) rfl #[.slice A0 l0.length c0, .int .i64 1048576] rfl (by (try simp only [List.map_toArray, List.map_cons, List.map_nil]); first | done | rfl) ?_; (with_reducible refine (laws_szLinePartS.calls _ _ l0 1048576 t511 _ ?side1 ?side2 A2.out).mono ?_); (case side1 => repeat (first | exact HR0.out | (with_reducible refine Kd.C_alloc ?_ _) | (with_reducible refine Kd.C_drewN ?_ _) | (with_reducible refine Kd.C_drew ?_))); (case side2 => exact HC0.out); rintro e w' ⟨rfl, ⟨nd, rfl⟩⟩; refine ⟨_, rfl, ?_⟩) | ((with_reducible refine gate_callee (f := 17) rfl ?_); refine goesL_ (some 16) rfl rfl Try.func17 (by kernel_rfl) rfl #[.slice A0 l0.length c0] rfl (by (try simp only [List.map_toArray, List.map_cons, List.map_nil]); first | done | rfl) ?_; (with_reducible refine (laws_toLinePartS.calls k _ _ l0 t512 _ ?side1 ?side2 A4.out).mono ?_); (case side1 => repeat (first | exact HR0.out | (with_reducible refine Kd.C_alloc ?_ _) | (with_reducible refine Kd.C_drewN ?_ _) | (with_reducible refine Kd.C_drew ?_))); (case side2 => exact HC0.out); rintro e w9 ⟨v513, rfl, ho0, hb⟩; refine ⟨_, rfl, ?_⟩; have n0_ := Aside0.mk (Kd.R_lower ho0 (below_size (by repeat (first | (with_reducible first | exact HB.out | apply bA_ | apply bN_ | apply b1_) | exact HB.out)))); have n1_ := Aside0.mk (below_step (by repeat (first | (with_reducible first | exact HB.out | apply bA_ | apply bN_ | apply b1_) | exact HB.out)) hb); clear HB; have HO514 := n0_; have HB := n1_; clear n0_ n1_; (try clear hb); (try clear hb2); (try clear hk); (try clear hi); (try clear ho0); obtain ⟨Ao10, co10, eo10⟩ := Kd.R_slice HO514.out; subst eo10) | ((with_reducible refine gate_callee (f := 34) rfl ?_); refine goesL_ (some 17) rfl rfl Try.func34 (by kernel_rfl) rfl #[.slice Ao10 t512.length co10] rfl (by (try simp only [List.map_toArray, List.map_cons, List.map_nil]); first | done | rfl) ?_; (with_reducible refine (spec_HardestBranch.calls k _ _ t512 t515 t516 _ ?side1 ?side2 A5.out).mono ?_); (case side1 => repeat (first | exact (Kd.R_reads' HO514.out).2.2 | (with_reducible refine Kd.C_alloc ?_ _) | (with_reducible refine Kd.C_drewN ?_ _) | (with_reducible refine Kd.C_drew ?_))); (case side2 => exact (Kd.R_reads' HO514.out).2.1); rintro e w11 ⟨rfl, hb⟩; refine ⟨_, rfl, ?_⟩; have n0_ := Aside0.mk (Kd.R_below (by (with_reducible repeat (first | apply Kd.R_alloc | apply Kd.R_drewN | apply Kd.R_drew)); exact HO514.out) hb); have n1_ := Aside0.mk (below_step (by repeat (first | (with_reducible first | exact HB.out | apply bA_ | apply bN_ | apply b1_) | exact HB.out)) hb); clear HO514; clear HB; have HO514 := n0_; have HB := n1_; clear n0_ n1_; (try clear hb); (try clear hb2); (try clear hk); (try clear hi)) | ((with_reducible refine gate_callee (f := 17) rfl ?_); refine goesL_ (some 21) rfl rfl Try.func17 (by kernel_rfl) rfl #[.slice A0 l0.length c0] rfl (by (try simp only [List.map_toArray, List.map_cons, List.map_nil]); first | done | rfl) ?_; (with_reducible refine (laws_toLinePartS.calls k _ _ l0 t517 _ ?side1 ?side2 A6.out).mono ?_); (case side1 => repeat (first | exact (Kd.C_below HR0.out HB.out) | (with_reducible refine Kd.C_alloc ?_ _) | (with_reducible refine Kd.C_drewN ?_ _) | (with_reducible refine Kd.C_drew ?_))); (case side2 => exact HC0.out); rintro e w12 ⟨v518, rfl, ho0, hb⟩; refine ⟨_, rfl, ?_⟩; have n0_ := Aside0.mk (Kd.R_elder' (by (with_reducible repeat (first | apply Kd.R_alloc | apply Kd.R_drewN | apply Kd.R_drew)); exact HO514.out) (Kd.R_base ho0) hb); have n1_ := Aside0.mk (Kd.R_lower (Kd.R_new' ho0 (Kd.R_lt (by (with_reducible repeat (first | apply Kd.R_alloc | apply Kd.R_drewN | apply Kd.R_drew)); exact HO514.out))) (below_size (by repeat (first | (with_reducible first | exact HB.out | apply bA_ | apply bN_ | apply b1_) | exact HB.out)))); have n2_ := Aside0.mk (below_step (by repeat (first | (with_reducible first | exact HB.out | apply bA_ | apply bN_ | apply b1_) | exact HB.out)) hb); clear HO514; clear HB; have HO514 := n0_; have HO519 := n1_; have HB := n2_; clear n0_ n1_ n2_; (try clear hb); (try clear hb2); (try clear hk); (try clear hi); (try clear ho0); obtain ⟨Ao13, co13, eo13⟩ := Kd.R_slice HO519.out; subst eo13) | ((with_reducible refine gate_callee (f := 35) rfl ?_); refine goesL_ (some 24) rfl rfl Try.func35 (by kernel_rfl) rfl #[.slice Ao13 t517.length co13] rfl (by (try simp only [List.map_toArray, List.map_cons, List.map_nil]); first | done | rfl) ?_; (with_reducible refine (impl_HardestBranch.calls k _ _ t517 t520 t521 _ ?side1 ?side2 A7.out).mono ?_); (case side1 => repeat (first | exact (Kd.R_reads' HO519.out).2.2 | (with_reducible refine Kd.C_alloc ?_ _) | (with_reducible refine Kd.C_drewN ?_ _) | (with_reducible refine Kd.C_drew ?_))); (case side2 => exact (Kd.R_reads' HO519.out).2.1); rintro e w14 ⟨rfl, hb⟩; refine ⟨_, rfl, ?_⟩; have n0_ := Aside0.mk (Kd.R_below (by (with_reducible repeat (first | apply Kd.R_alloc | apply Kd.R_drewN | apply Kd.R_drew)); exact HO514.out) hb); have n1_ := Aside0.mk (Kd.R_below (by (with_reducible repeat (first | apply Kd.R_alloc | apply Kd.R_drewN | apply Kd.R_drew)); exact HO519.out) hb); have n2_ := Aside0.mk (below_step (by repeat (first | (with_reducible first | exact HB.out | apply bA_ | apply bN_ | apply b1_) | exact HB.out)) hb); clear HO514; clear HO519; clear HB; have HO514 := n0_; have HO519 := n1_; have HB := n2_; clear n0_ n1_ n2_; (try clear hb); (try clear hb2); (try clear hk); (try clear hi)))
  (try simp only [Act.put, List.setIfInBounds_toArray, List.set_cons_zero, List.set_cons_succ])
  go_cut [34] (fun v34 wc => ∃ (kq : Nat) (x34_7 : Bool), v34 = .bool x34_7 ∧ Aside0 (laws_FnExactHardestBranch.j0 kq l0 t517 x34_7 = some r) ∧ Aside0 (kq ≤ k) ∧ Aside0 (Kd.R k45 45 wc w.heap.size (fun _ => True) (.slice Ao13 t517.length co13) t517) ∧ Aside0 (Below w.heap.size w wc))
  case first =>
   have H := HC8.out
   clear HC8
   by_cases c15 : t520 = t515
   case neg =>
    rw [if_neg c15] at H
    have c15b0 : (t520 == t515) = false := beq_eq_false_iff_ne.mpr c15
    have c15b1 : (t520 != t515) = true := bne_iff_ne.mpr c15
    (first | rw [c15b0] | (simp only [i64_w, i32_w]; rw [c15b0]) | skip)
    have H' := Aside0.mk H
    clear H
    go_wp2
    go_meet
    case rel => exact ⟨_, (true), (by first | rfl | (simp; done) | (simp [*]; done)), H', ⟨by first | omega | exact Nat.le_refl _⟩, ⟨by (with_reducible repeat (first | apply Kd.R_alloc | apply Kd.R_drewN | apply Kd.R_drew)); exact Kd.R_mono HO519.out (fun _ hk => trivial)⟩, ⟨by repeat (first | (with_reducible first | exact HB.out | apply bA_ | apply bN_ | apply b1_) | exact HB.out)⟩⟩
   rw [if_pos c15] at H
   have c15b0 : (t520 == t515) = true := beq_iff_eq.mpr c15
   have c15b1 : (t520 != t515) = false := bne_eq_false_iff_eq.mpr c15
   clear c15
   (first | rw [c15b0] | (simp only [i64_w, i32_w]; rw [c15b0]) | skip)
   have H' := Aside0.mk H
   clear H
   go_wp2
   go_meet
   case rel => exact ⟨_, ((t521 != t516)), (by first | rfl | (simp; done) | (simp [*]; done)), H', ⟨by first | omega | exact Nat.le_refl _⟩, ⟨by (with_reducible repeat (first | apply Kd.R_alloc | apply Kd.R_drewN | apply Kd.R_drew)); exact Kd.R_mono HO519.out (fun _ hk => trivial)⟩, ⟨by repeat (first | (with_reducible first | exact HB.out | apply bA_ | apply bN_ | apply b1_) | exact HB.out)⟩⟩
  case rest =>
   clear HC8
   try clear c1
   try clear p2
   try clear c3
   try clear c3b0
   try clear c8
   try clear c15
   try clear c15b0
   try clear c15b1
   obtain ⟨kq, x34_7, rfl, HA, HJ7, HO_6, HB⟩ := hcut
   cases kq with
   | zero => exact absurd HA.out (by simp [laws_FnExactHardestBranch.j0])
   | succ kj7 =>
    have H := HA.out
    clear HA
    simp only [laws_FnExactHardestBranch.j0] at H
    by_cases c16 : x34_7 = true
    case neg =>
     replace c16 := Bool.eq_false_iff.mpr c16
     subst c16
     have H1 : ((laws_toLinePartS.f kj7 l0).bind fun t522 => ((laws_eqLinePartS.f kj7 t517 t522).bind fun t525 => (if t525 = true then (some true) else (some false)))) = some r := by rw [if_neg (show ¬ (false = true) by decide)] at H; exact H
     clear H
     have H := H1
     clear H1
     replace H := Option.bind_eq_some_iff.mp H
     obtain ⟨t522, A170, H⟩ := H
     replace H : ((laws_eqLinePartS.f kj7 t517 t522).bind fun t525 => (if t525 = true then (some true) else (some false))) = some r := H
     have A17 := Aside0.mk A170
     clear A170
     replace H := Option.bind_eq_some_iff.mp H
     obtain ⟨t525, A180, H⟩ := H
     replace H : (if t525 = true then (some true) else (some false)) = some r := H
     have A18 := Aside0.mk A180
     clear A180
     by_cases c19 : t525 = true
     case neg =>
      replace c19 := Bool.eq_false_iff.mpr c19
      subst c19
      have H1 : (some false) = some r := by rw [if_neg (show ¬ (false = true) by decide)] at H; exact H
      clear H
      have H := H1
      clear H1
      obtain rfl := Option.some.inj H
      go_wp2_with (first | ((with_reducible refine gate_callee (f := 17) rfl ?_); refine goesL_ (some 37) rfl rfl Try.func17 (by kernel_rfl) rfl #[.slice A0 l0.length c0] rfl (by (try simp only [List.map_toArray, List.map_cons, List.map_nil]); first | done | rfl) ?_; (with_reducible refine (laws_toLinePartS.calls kj7 _ _ l0 t522 _ ?side1 ?side2 A17.out).mono ?_); (case side1 => repeat (first | exact (Kd.C_below HR0.out HB.out) | (with_reducible refine Kd.C_alloc ?_ _) | (with_reducible refine Kd.C_drewN ?_ _) | (with_reducible refine Kd.C_drew ?_))); (case side2 => exact HC0.out); rintro e w23 ⟨v523, rfl, ho0, hb⟩; refine ⟨_, rfl, ?_⟩; have n0_ := Aside0.mk (Kd.R_elder' (by (with_reducible repeat (first | apply Kd.R_alloc | apply Kd.R_drewN | apply Kd.R_drew)); exact HO_6.out) (Kd.R_base ho0) hb); have n1_ := Aside0.mk (Kd.R_lower (Kd.R_new' ho0 (Kd.R_lt (by (with_reducible repeat (first | apply Kd.R_alloc | apply Kd.R_drewN | apply Kd.R_drew)); exact HO_6.out))) (below_size (by repeat (first | (with_reducible first | exact HB.out | apply bA_ | apply bN_ | apply b1_) | exact HB.out)))); have n2_ := Aside0.mk (below_step (by repeat (first | (with_reducible first | exact HB.out | apply bA_ | apply bN_ | apply b1_) | exact HB.out)) hb); clear HO_6; clear HB; have HO_6 := n0_; have HO524 := n1_; have HB := n2_; clear n0_ n1_ n2_; (try clear hb); (try clear hb2); (try clear hk); (try clear hi); (try clear ho0); obtain ⟨Ao24, co24, eo24⟩ := Kd.R_slice HO524.out; subst eo24) | ((with_reducible refine gate_callee (f := 19) rfl ?_); refine goesL_ (some 38) rfl rfl Try.func19 (by kernel_rfl) rfl #[.slice Ao13 t517.length co13, .slice Ao24 t522.length co24] rfl (by (try simp only [List.map_toArray, List.map_cons, List.map_nil]); first | done | rfl) ?_; (with_reducible refine (laws_eqLinePartS.calls kj7 _ _ t517 _ _ t522 false _ ?side1 ?side2 ?side3 ?side4 A18.out).mono ?_); (case side1 => repeat (first | exact (Kd.R_reads' HO_6.out).2.2 | (with_reducible refine Kd.C_alloc ?_ _) | (with_reducible refine Kd.C_drewN ?_ _) | (with_reducible refine Kd.C_drew ?_))); (case side2 => exact (Kd.R_reads' HO_6.out).2.1); (case side3 => repeat (first | exact (Kd.R_reads' HO524.out).2.2 | (with_reducible refine Kd.C_alloc ?_ _) | (with_reducible refine Kd.C_drewN ?_ _) | (with_reducible refine Kd.C_drew ?_))); (case side4 => exact (Kd.R_reads' HO524.out).2.1); rintro e w25 ⟨rfl, hb⟩; refine ⟨_, rfl, ?_⟩; have n0_ := Aside0.mk (Kd.R_below (by (with_reducible repeat (first | apply Kd.R_alloc | apply Kd.R_drewN | apply Kd.R_drew)); exact HO_6.out) hb); have n1_ := Aside0.mk (Kd.R_below (by (with_reducible repeat (first | apply Kd.R_alloc | apply Kd.R_drewN | apply Kd.R_drew)); exact HO524.out) hb); have n2_ := Aside0.mk (below_step (by repeat (first | (with_reducible first | exact HB.out | apply bA_ | apply bN_ | apply b1_) | exact HB.out)) hb); clear HO_6; clear HO524; clear HB; have HO_6 := n0_; have HO524 := n1_; have HB := n2_; clear n0_ n1_ n2_; (try clear hb); (try clear hb2); (try clear hk); (try clear hi)))
      go_ret
      exact ⟨by first | rfl | (simp [errW_none, errW_some] <;> rfl) | (simp [*, errW_none, errW_some] <;> rfl), by repeat (first | (with_reducible first | exact HB.out | apply bA_ | apply bN_ | apply b1_) | exact HB.out)⟩
     subst c19
     have H1 : (some true) = some r := by rw [if_pos rfl] at H; exact H
     clear H
     have H := H1
     clear H1
     obtain rfl := Option.some.inj H
     go_wp2_with (first | ((with_reducible refine gate_callee (f := 17) rfl ?_); refine goesL_ (some 37) rfl rfl Try.func17 (by kernel_rfl) rfl #[.slice A0 l0.length c0] rfl (by (try simp only [List.map_toArray, List.map_cons, List.map_nil]); first | done | rfl) ?_; (with_reducible refine (laws_toLinePartS.calls kj7 _ _ l0 t522 _ ?side1 ?side2 A17.out).mono ?_); (case side1 => repeat (first | exact (Kd.C_below HR0.out HB.out) | (with_reducible refine Kd.C_alloc ?_ _) | (with_reducible refine Kd.C_drewN ?_ _) | (with_reducible refine Kd.C_drew ?_))); (case side2 => exact HC0.out); rintro e w20 ⟨v523, rfl, ho0, hb⟩; refine ⟨_, rfl, ?_⟩; have n0_ := Aside0.mk (Kd.R_elder' (by (with_reducible repeat (first | apply Kd.R_alloc | apply Kd.R_drewN | apply Kd.R_drew)); exact HO_6.out) (Kd.R_base ho0) hb); have n1_ := Aside0.mk (Kd.R_lower (Kd.R_new' ho0 (Kd.R_lt (by (with_reducible repeat (first | apply Kd.R_alloc | apply Kd.R_drewN | apply Kd.R_drew)); exact HO_6.out))) (below_size (by repeat (first | (with_reducible first | exact HB.out | apply bA_ | apply bN_ | apply b1_) | exact HB.out)))); have n2_ := Aside0.mk (below_step (by repeat (first | (with_reducible first | exact HB.out | apply bA_ | apply bN_ | apply b1_) | exact HB.out)) hb); clear HO_6; clear HB; have HO_6 := n0_; have HO524 := n1_; have HB := n2_; clear n0_ n1_ n2_; (try clear hb); (try clear hb2); (try clear hk); (try clear hi); (try clear ho0); obtain ⟨Ao21, co21, eo21⟩ := Kd.R_slice HO524.out; subst eo21) | ((with_reducible refine gate_callee (f := 19) rfl ?_); refine goesL_ (some 38) rfl rfl Try.func19 (by kernel_rfl) rfl #[.slice Ao13 t517.length co13, .slice Ao21 t522.length co21] rfl (by (try simp only [List.map_toArray, List.map_cons, List.map_nil]); first | done | rfl) ?_; (with_reducible refine (laws_eqLinePartS.calls kj7 _ _ t517 _ _ t522 true _ ?side1 ?side2 ?side3 ?side4 A18.out).mono ?_); (case side1 => repeat (first | exact (Kd.R_reads' HO_6.out).2.2 | (with_reducible refine Kd.C_alloc ?_ _) | (with_reducible refine Kd.C_drewN ?_ _) | (with_reducible refine Kd.C_drew ?_))); (case side2 => exact (Kd.R_reads' HO_6.out).2.1); (case side3 => repeat (first | exact (Kd.R_reads' HO524.out).2.2 | (with_reducible refine Kd.C_alloc ?_ _) | (with_reducible refine Kd.C_drewN ?_ _) | (with_reducible refine Kd.C_drew ?_))); (case side4 => exact (Kd.R_reads' HO524.out).2.1); rintro e w22 ⟨rfl, hb⟩; refine ⟨_, rfl, ?_⟩; have n0_ := Aside0.mk (Kd.R_below (by (with_reducible repeat (first | apply Kd.R_alloc | apply Kd.R_drewN | apply Kd.R_drew)); exact HO_6.out) hb); have n1_ := Aside0.mk (Kd.R_below (by (with_reducible repeat (first | apply Kd.R_alloc | apply Kd.R_drewN | apply Kd.R_drew)); exact HO524.out) hb); have n2_ := Aside0.mk (below_step (by repeat (first | (with_reducible first | exact HB.out | apply bA_ | apply bN_ | apply b1_) | exact HB.out)) hb); clear HO_6; clear HO524; clear HB; have HO_6 := n0_; have HO524 := n1_; have HB := n2_; clear n0_ n1_ n2_; (try clear hb); (try clear hb2); (try clear hk); (try clear hi)))
     go_ret
     exact ⟨by first | rfl | (simp [errW_none, errW_some] <;> rfl) | (simp [*, errW_none, errW_some] <;> rfl), by repeat (first | (with_reducible first | exact HB.out | apply bA_ | apply bN_ | apply b1_) | exact HB.out)⟩
    subst c16
    have H1 : (some false) = some r := by rw [if_pos rfl] at H; exact H
    clear H
    have H := H1
    clear H1
    obtain rfl := Option.some.inj H
    go_wp2
    go_ret
    exact ⟨by first | rfl | (simp [errW_none, errW_some] <;> rfl) | (simp [*, errW_none, errW_some] <;> rfl), by repeat (first | (with_reducible first | exact HB.out | apply bA_ | apply bN_ | apply b1_) | exact HB.out)⟩
 rw [if_pos c3] at H
 have c3b0 : decide (t511 < 0) = true := decide_eq_true c3
 clear c3
 obtain rfl := Option.some.inj H
 go_enter Try.func8, Try.ntmps8
 go_wp2_with (first | ((with_reducible refine gate_callee (f := 15) rfl ?_); refine goesL_ (some 11) rfl rfl Try.func15 (by kernel_rfl) rfl #[.slice A0 l0.length c0, .int .i64 1048576] rfl (by (try simp only [List.map_toArray, List.map_cons, List.map_nil]); first | done | rfl) ?_; (with_reducible refine (laws_szLinePartS.calls _ _ l0 1048576 t511 _ ?side1 ?side2 A2.out).mono ?_); (case side1 => repeat (first | exact HR0.out | (with_reducible refine Kd.C_alloc ?_ _) | (with_reducible refine Kd.C_drewN ?_ _) | (with_reducible refine Kd.C_drew ?_))); (case side2 => exact HC0.out); rintro e w' ⟨rfl, ⟨nd, rfl⟩⟩; refine ⟨_, rfl, ?_⟩))
 go_ret
 exact ⟨by first | rfl | (simp [errW_none, errW_some] <;> rfl) | (simp [*, errW_none, errW_some] <;> rfl), by repeat (first | (with_reducible first | exact HB.out | apply bA_ | apply bN_ | apply b1_) | exact HB.out)⟩

end Go.Proofs.Ytenfngleiohbhaa.P
