/- Written by a program of this session (wip/p2) out of the translation: plain Lean functions, and that the calls of the Go functions come to what these say. Conditions: as each contract states. -/
import Derived.Test.YtenfngleiohbhaaQFnExactHardestBranch1
namespace Go.Proofs.Ytenfngleiohbhaa.P
open Go.RowKit Go.Proofs.Ytenfngleiohbhaa Go.Proofs.YtenfngleiohbhaaW.PrintWords Go.Proofs.YtenfngleiohbhaaW.PrintLast Go.Proofs.YtenfngleiohbhaaW.PrintMore
attribute [local go_sem] max2_int min2_int max_two min_two max_three min_three max_four min_four   -- for this text's walks alone
set_option linter.unusedVariables false
set_option linter.unusedSimpArgs false

/-! ### spec_liPart: function 75 -/
def spec_liPart.j0 : Nat → Bool → Int → Int → Int → Int → Int → Int → Option (Bool)
  | 0, _, _, _, _, _, _, _ => none
  | k + 1, x43, x124000, x124001, x124002, x124003, x124004, x124005 => if x43 = true then (some false) else (if x124004 = 0 then (some (x124005 == 0)) else ((spec_hoNozzle.f x124004).bind fun t130 => (if t130 = true then ((spec_l1In.f x124005 1 3000).bind fun t131 => (if t131 = true then ((spec_hoNeeds.f k x124004 x124005).bind fun bt132 => (some bt132.2)) else (some false))) else (some false))))
def spec_liPart.f (k : Nat) (l0 : List (S45)) (a1 : Int) : Option (Bool) := if 0 ≤ a1 then (if a1 < (l0.length : Int) then ((spec_l1In.f ((rd_T45 l0 a1).f0) (-1) (wrap64 (a1 - 1))).bind fun t124 => (if t124 = true then (if ((rd_T45 l0 a1).f0) ≥ 0 then (if 0 ≤ ((rd_T45 l0 a1).f0) then (if ((rd_T45 l0 a1).f0) < (l0.length : Int) then (if ((rd_T45 l0 ((rd_T45 l0 a1).f0)).f3) > 0 then (spec_liPart.j0 k true ((rd_T45 l0 a1).f0) ((rd_T45 l0 a1).f1.f0) ((rd_T45 l0 a1).f1.f1) ((rd_T45 l0 a1).f2) ((rd_T45 l0 a1).f3) ((rd_T45 l0 a1).f4)) else ((spec_hoOne.f ((rd_T45 l0 a1).f1.f0) ((rd_T45 l0 a1).f1.f1)).bind fun t126 => (if t126 = true then ((spec_l1In.f ((rd_T45 l0 a1).f2) (-500) 500).bind fun t127 => (spec_liPart.j0 k (!t127) ((rd_T45 l0 a1).f0) ((rd_T45 l0 a1).f1.f0) ((rd_T45 l0 a1).f1.f1) ((rd_T45 l0 a1).f2) ((rd_T45 l0 a1).f3) ((rd_T45 l0 a1).f4))) else (spec_liPart.j0 k true ((rd_T45 l0 a1).f0) ((rd_T45 l0 a1).f1.f0) ((rd_T45 l0 a1).f1.f1) ((rd_T45 l0 a1).f2) ((rd_T45 l0 a1).f3) ((rd_T45 l0 a1).f4))))) else (none)) else (none)) else ((spec_hoOne.f ((rd_T45 l0 a1).f1.f0) ((rd_T45 l0 a1).f1.f1)).bind fun t128 => (if t128 = true then ((spec_l1In.f ((rd_T45 l0 a1).f2) (-500) 500).bind fun t129 => (spec_liPart.j0 k (!t129) ((rd_T45 l0 a1).f0) ((rd_T45 l0 a1).f1.f0) ((rd_T45 l0 a1).f1.f1) ((rd_T45 l0 a1).f2) ((rd_T45 l0 a1).f3) ((rd_T45 l0 a1).f4))) else (spec_liPart.j0 k true ((rd_T45 l0 a1).f0) ((rd_T45 l0 a1).f1.f0) ((rd_T45 l0 a1).f1.f1) ((rd_T45 l0 a1).f2) ((rd_T45 l0 a1).f3) ((rd_T45 l0 a1).f4))))) else (spec_liPart.j0 k true ((rd_T45 l0 a1).f0) ((rd_T45 l0 a1).f1.f0) ((rd_T45 l0 a1).f1.f1) ((rd_T45 l0 a1).f2) ((rd_T45 l0 a1).f3) ((rd_T45 l0 a1).f4)))) else (none)) else (none)
theorem spec_liPart.mono_l : ∀ k, (∀ y0 y1 y2 y3 y4 y5 y6, LeO (spec_liPart.j0 k y0 y1 y2 y3 y4 y5 y6) (spec_liPart.j0 (k + 1) y0 y1 y2 y3 y4 y5 y6))
 | 0 => fun _ _ _ _ _ _ _ r h => by simp [spec_liPart.j0] at h
 | k + 1 => by
  have ih0 := spec_liPart.mono_l k
  · intro y0 y1 y2 y3 y4 y5 y6
    unfold spec_liPart.j0
    repeat' first
    | (with_reducible exact ih0 _ _ _ _ _ _ _)
    | (with_reducible exact spec_hoNeeds.mono _ _ _)
    | (with_reducible exact LeO.refl _)
    | (with_reducible exact LeO.none _)
    | (with_reducible refine LeO.ite ?_ ?_)
    | (with_reducible refine LeO.bind ?_ (fun _ => ?_))
    | exact ih0 _ _ _ _ _ _ _
    | exact spec_hoNeeds.mono _ _ _
    | exact LeO.none _
    | refine LeO.ite ?_ ?_
    | refine LeO.bind ?_ (fun _ => ?_)
theorem spec_liPart.mono : ∀ a0 a1 k, LeO (spec_liPart.f k a0 a1) (spec_liPart.f (k + 1) a0 a1) := by
 intro a0 a1 k
 have ih0 := spec_liPart.mono_l k
 unfold spec_liPart.f
 repeat' first
  | (with_reducible exact ih0 _ _ _ _ _ _ _)
  | (with_reducible exact spec_hoNeeds.mono _ _ _)
  | (with_reducible exact LeO.refl _)
  | (with_reducible exact LeO.none _)
  | (with_reducible refine LeO.ite ?_ ?_)
  | (with_reducible refine LeO.bind ?_ (fun _ => ?_))
  | exact ih0 _ _ _ _ _ _ _
  | exact spec_hoNeeds.mono _ _ _
  | exact LeO.none _
  | refine LeO.ite ?_ ?_
  | refine LeO.bind ?_ (fun _ => ?_)
set_option maxHeartbeats 8000000 in
set_option maxRecDepth 100000 in
theorem spec_liPart.calls (k : Nat) (A0 : Option Addr) (c0 : Nat) (l0 : List (S45)) (a1 : Int) (r : Bool) (w : World) (hr0 : Kd.C k45 w A0 l0.length l0) (hc0 : l0.length ≤ c0) (h : spec_liPart.f k l0 a1 = some r) :
  Calls Try.prog 75 #[.slice A0 l0.length c0, .int .i64 a1] w fun e w' => e = .returned (.bool r) ∧ Below w.heap.size w w' := by
 have hu45 := Try.underlying45
 have hu43 := Try.underlying43
 have HR0 := Aside0.mk hr0
 have HC0 := Aside0.mk hc0
 clear hr0 hc0
 have HB := Aside0.mk (Below.refl w.heap.size w)
 have H : (if 0 ≤ a1 then (if a1 < (l0.length : Int) then ((spec_l1In.f ((rd_T45 l0 a1).f0) (-1) (wrap64 (a1 - 1))).bind fun t124 => (if t124 = true then (if ((rd_T45 l0 a1).f0) ≥ 0 then (if 0 ≤ ((rd_T45 l0 a1).f0) then (if ((rd_T45 l0 a1).f0) < (l0.length : Int) then (if ((rd_T45 l0 ((rd_T45 l0 a1).f0)).f3) > 0 then (spec_liPart.j0 k true ((rd_T45 l0 a1).f0) ((rd_T45 l0 a1).f1.f0) ((rd_T45 l0 a1).f1.f1) ((rd_T45 l0 a1).f2) ((rd_T45 l0 a1).f3) ((rd_T45 l0 a1).f4)) else ((spec_hoOne.f ((rd_T45 l0 a1).f1.f0) ((rd_T45 l0 a1).f1.f1)).bind fun t126 => (if t126 = true then ((spec_l1In.f ((rd_T45 l0 a1).f2) (-500) 500).bind fun t127 => (spec_liPart.j0 k (!t127) ((rd_T45 l0 a1).f0) ((rd_T45 l0 a1).f1.f0) ((rd_T45 l0 a1).f1.f1) ((rd_T45 l0 a1).f2) ((rd_T45 l0 a1).f3) ((rd_T45 l0 a1).f4))) else (spec_liPart.j0 k true ((rd_T45 l0 a1).f0) ((rd_T45 l0 a1).f1.f0) ((rd_T45 l0 a1).f1.f1) ((rd_T45 l0 a1).f2) ((rd_T45 l0 a1).f3) ((rd_T45 l0 a1).f4))))) else (none)) else (none)) else ((spec_hoOne.f ((rd_T45 l0 a1).f1.f0) ((rd_T45 l0 a1).f1.f1)).bind fun t128 => (if t128 = true then ((spec_l1In.f ((rd_T45 l0 a1).f2) (-500) 500).bind fun t129 => (spec_liPart.j0 k (!t129) ((rd_T45 l0 a1).f0) ((rd_T45 l0 a1).f1.f0) ((rd_T45 l0 a1).f1.f1) ((rd_T45 l0 a1).f2) ((rd_T45 l0 a1).f3) ((rd_T45 l0 a1).f4))) else (spec_liPart.j0 k true ((rd_T45 l0 a1).f0) ((rd_T45 l0 a1).f1.f0) ((rd_T45 l0 a1).f1.f1) ((rd_T45 l0 a1).f2) ((rd_T45 l0 a1).f3) ((rd_T45 l0 a1).f4))))) else (spec_liPart.j0 k true ((rd_T45 l0 a1).f0) ((rd_T45 l0 a1).f1.f0) ((rd_T45 l0 a1).f1.f1) ((rd_T45 l0 a1).f2) ((rd_T45 l0 a1).f3) ((rd_T45 l0 a1).f4)))) else (none)) else (none)) = some r := h
 clear h
 by_cases c3 : 0 ≤ a1
 case neg =>
  rw [if_neg c3] at H
  exact absurd H (by simp)
 rw [if_pos c3] at H
 have c3b0 : decide (0 ≤ a1) = true := decide_eq_true c3
 clear c3
 by_cases c4 : a1 < (l0.length : Int)
 case neg =>
  rw [if_neg c4] at H
  exact absurd H (by simp)
 rw [if_pos c4] at H
 have c4b0 : decide (a1 < (l0.length : Int)) = true := decide_eq_true c4
 clear c4
 have HC5 := Aside0.mk H
 clear H
 have p122 : 0 ≤ (a1 : Int) := of_decide_eq_true (by first|with_reducible assumption|assumption)
 have q122 : a1 < (l0.length : Int) := of_decide_eq_true (by first|with_reducible assumption|assumption)
 obtain ⟨ad122, e122, hx122_0, hx122_1, hx122_2, hx122_3, hx122_4, hx122_5⟩ := at_T45 HR0.out a1 p122 q122
 cases e122
 replace p122 := eq_true p122
 replace q122 := eq_true q122
 go_enter Try.func75, Try.ntmps75
 go_upto_region 2 with (first | ((with_reducible refine gate_dst (N := 5) rfl ?_); refine box_event ?hg (N := 5) ?hd (cs := #[.int .i64 0, .int .i64 0, .int .i64 0, .int .i64 0, .int .i64 0, .int .i64 0]) (t := 45) ?hr ?_; (case hd => rfl); (case hg => rfl); (case hr => first | (go_simp; done) | (go_simp; rfl)); intro gb123 hg w6 hbox hb; have n0_ := Aside0.mk (below_step (by repeat (first | (with_reducible first | exact HB.out | apply bA_ | apply bN_ | apply b1_) | exact HB.out)) hb); have n1_ := Aside0.mk (hbox); have n2_ := Aside0.mk ((by rw [hg]; exact (below_size (by repeat (first | (with_reducible first | exact HB.out | apply bA_ | apply bN_ | apply b1_) | exact HB.out))) : w.heap.size ≤ gb123)); have n3_ := n2_; clear HB; have HB := n0_; have BK123 := n1_; have GW123 := n2_; have GE123 := n3_; clear n0_ n1_ n2_ n3_; clear hb hbox hg; obtain ⟨hcz7_0, hcz7_1, hcz7_2, hcz7_3, hcz7_4, hcz7_5, hfz7_0, hfz7_1, hfz7_2, hfz7_3, hfz7_4, hfz7_5⟩ := blk6_ BK123.out))
 (try simp only [Act.put, List.setIfInBounds_toArray, List.set_cons_zero, List.set_cons_succ])
 go_cut [43] (fun v43 wc => ∃ (kq : Nat) (x43_4 : Bool), v43 = .bool x43_4 ∧ Aside0 (spec_liPart.j0 kq x43_4 ((rd_T45 l0 a1).f0) ((rd_T45 l0 a1).f1.f0) ((rd_T45 l0 a1).f1.f1) ((rd_T45 l0 a1).f2) ((rd_T45 l0 a1).f3) ((rd_T45 l0 a1).f4) = some r) ∧ Aside0 (kq ≤ k) ∧ Aside0 (wc.heap[gb123]? = some (.cells #[.int .i64 ((rd_T45 l0 a1).f0), .int .i64 ((rd_T45 l0 a1).f1.f0), .int .i64 ((rd_T45 l0 a1).f1.f1), .int .i64 ((rd_T45 l0 a1).f2), .int .i64 ((rd_T45 l0 a1).f3), .int .i64 ((rd_T45 l0 a1).f4)] 45 (0, 0))) ∧ Aside0 (Below w.heap.size w wc))
 case first =>
  have H := HC5.out
  clear HC5
  replace H := Option.bind_eq_some_iff.mp H
  obtain ⟨t124, A80, H⟩ := H
  replace H : (if t124 = true then (if ((rd_T45 l0 a1).f0) ≥ 0 then (if 0 ≤ ((rd_T45 l0 a1).f0) then (if ((rd_T45 l0 a1).f0) < (l0.length : Int) then (if ((rd_T45 l0 ((rd_T45 l0 a1).f0)).f3) > 0 then (spec_liPart.j0 k true ((rd_T45 l0 a1).f0) ((rd_T45 l0 a1).f1.f0) ((rd_T45 l0 a1).f1.f1) ((rd_T45 l0 a1).f2) ((rd_T45 l0 a1).f3) ((rd_T45 l0 a1).f4)) else ((spec_hoOne.f ((rd_T45 l0 a1).f1.f0) ((rd_T45 l0 a1).f1.f1)).bind fun t126 => (if t126 = true then ((spec_l1In.f ((rd_T45 l0 a1).f2) (-500) 500).bind fun t127 => (spec_liPart.j0 k (!t127) ((rd_T45 l0 a1).f0) ((rd_T45 l0 a1).f1.f0) ((rd_T45 l0 a1).f1.f1) ((rd_T45 l0 a1).f2) ((rd_T45 l0 a1).f3) ((rd_T45 l0 a1).f4))) else (spec_liPart.j0 k true ((rd_T45 l0 a1).f0) ((rd_T45 l0 a1).f1.f0) ((rd_T45 l0 a1).f1.f1) ((rd_T45 l0 a1).f2) ((rd_T45 l0 a1).f3) ((rd_T45 l0 a1).f4))))) else (none)) else (none)) else ((spec_hoOne.f ((rd_T45 l0 a1).f1.f0) ((rd_T45 l0 a1).f1.f1)).bind fun t128 => (if t128 = true then ((spec_l1In.f ((rd_T45 l0 a1).f2) (-500) 500).bind fun t129 => (spec_liPart.j0 k (!t129) ((rd_T45 l0 a1).f0) ((rd_T45 l0 a1).f1.f0) ((rd_T45 l0 a1).f1.f1) ((rd_T45 l0 a1).f2) ((rd_T45 l0 a1).f3) ((rd_T45 l0 a1).f4))) else (spec_liPart.j0 k true ((rd_T45 l0 a1).f0) ((rd_T45 l0 a1).f1.f0) ((rd_T45 l0 a1).f1.f1) ((rd_T45 l0 a1).f2) ((rd_T45 l0 a1).f3) ((rd_T45 l0 a1).f4))))) else (spec_liPart.j0 k true ((rd_T45 l0 a1).f0) ((rd_T45 l0 a1).f1.f0) ((rd_T45 l0 a1).f1.f1) ((rd_T45 l0 a1).f2) ((rd_T45 l0 a1).f3) ((rd_T45 l0 a1).f4))) = some r := H
  have A8 := Aside0.mk A80
  clear A80
  by_cases c9 : t124 = true
  case neg =>
   replace c9 := Bool.eq_false_iff.mpr c9
   subst c9
   have H1 : (spec_liPart.j0 k true ((rd_T45 l0 a1).f0) ((rd_T45 l0 a1).f1.f0) ((rd_T45 l0 a1).f1.f1) ((rd_T45 l0 a1).f2) ((rd_T45 l0 a1).f3) ((rd_T45 l0 a1).f4)) = some r := by rw [if_neg (show ¬ (false = true) by decide)] at H; exact H
   clear H
   have H := H1
   clear H1
   have H' := Aside0.mk H
   clear H
   obtain ⟨hcz31_0, hcz31_1, hcz31_2, hcz31_3, hcz31_4, hcz31_5, hfz31_0, hfz31_1, hfz31_2, hfz31_3, hfz31_4, hfz31_5⟩ := blk6_ BK123.out
   go_wp2_with (first | ((with_reducible refine gate_callee (f := 67) rfl ?_); refine goesL_ (some 16) rfl rfl Try.func67 (by kernel_rfl) rfl #[.int .i64 ((rd_T45 l0 a1).f0), .int .i64 (-1), .int .i64 (wrap64 (a1 - 1))] rfl (by (try simp only [List.map_toArray, List.map_cons, List.map_nil]); first | done | rfl) ?_; (with_reducible refine (spec_l1In.calls ((rd_T45 l0 a1).f0) (-1) (wrap64 (a1 - 1)) false _ A8.out).mono ?_); rintro e w' ⟨rfl, ⟨nd, rfl⟩⟩; refine ⟨_, rfl, ?_⟩))
   go_meet
   case rel => exact ⟨_, (true), (by first | rfl | (simp; done) | (simp [*]; done)), H', ⟨by first | omega | exact Nat.le_refl _⟩, ⟨by (with_reducible repeat (first | refine blk_drewN ?_ _ | refine blk_drew ?_ | refine blk_alloc ?_ _)); refine blk_put (cs := #[.int .i64 ((rd_T45 l0 a1).f0), .int .i64 ((rd_T45 l0 a1).f1.f0), .int .i64 ((rd_T45 l0 a1).f1.f1), .int .i64 ((rd_T45 l0 a1).f2), .int .i64 ((rd_T45 l0 a1).f3), .int .i64 0]) ?_ 5 _ rfl; (with_reducible repeat (first | refine blk_drewN ?_ _ | refine blk_drew ?_ | refine blk_alloc ?_ _)); refine blk_put (cs := #[.int .i64 ((rd_T45 l0 a1).f0), .int .i64 ((rd_T45 l0 a1).f1.f0), .int .i64 ((rd_T45 l0 a1).f1.f1), .int .i64 ((rd_T45 l0 a1).f2), .int .i64 0, .int .i64 0]) ?_ 4 _ rfl; (with_reducible repeat (first | refine blk_drewN ?_ _ | refine blk_drew ?_ | refine blk_alloc ?_ _)); refine blk_put (cs := #[.int .i64 ((rd_T45 l0 a1).f0), .int .i64 ((rd_T45 l0 a1).f1.f0), .int .i64 ((rd_T45 l0 a1).f1.f1), .int .i64 0, .int .i64 0, .int .i64 0]) ?_ 3 _ rfl; (with_reducible repeat (first | refine blk_drewN ?_ _ | refine blk_drew ?_ | refine blk_alloc ?_ _)); refine blk_put (cs := #[.int .i64 ((rd_T45 l0 a1).f0), .int .i64 ((rd_T45 l0 a1).f1.f0), .int .i64 0, .int .i64 0, .int .i64 0, .int .i64 0]) ?_ 2 _ rfl; (with_reducible repeat (first | refine blk_drewN ?_ _ | refine blk_drew ?_ | refine blk_alloc ?_ _)); refine blk_put (cs := #[.int .i64 ((rd_T45 l0 a1).f0), .int .i64 0, .int .i64 0, .int .i64 0, .int .i64 0, .int .i64 0]) ?_ 1 _ rfl; (with_reducible repeat (first | refine blk_drewN ?_ _ | refine blk_drew ?_ | refine blk_alloc ?_ _)); refine blk_put (cs := #[.int .i64 0, .int .i64 0, .int .i64 0, .int .i64 0, .int .i64 0, .int .i64 0]) ?_ 0 _ rfl; (with_reducible repeat (first | refine blk_drewN ?_ _ | refine blk_drew ?_ | refine blk_alloc ?_ _)); exact BK123.out⟩, ⟨by repeat (first | (with_reducible first | exact HB.out | apply bA_ | apply bN_ | apply b1_ | refine below_set ?_ GE123.out) | exact HB.out)⟩⟩
  subst c9
  have H1 : (if ((rd_T45 l0 a1).f0) ≥ 0 then (if 0 ≤ ((rd_T45 l0 a1).f0) then (if ((rd_T45 l0 a1).f0) < (l0.length : Int) then (if ((rd_T45 l0 ((rd_T45 l0 a1).f0)).f3) > 0 then (spec_liPart.j0 k true ((rd_T45 l0 a1).f0) ((rd_T45 l0 a1).f1.f0) ((rd_T45 l0 a1).f1.f1) ((rd_T45 l0 a1).f2) ((rd_T45 l0 a1).f3) ((rd_T45 l0 a1).f4)) else ((spec_hoOne.f ((rd_T45 l0 a1).f1.f0) ((rd_T45 l0 a1).f1.f1)).bind fun t126 => (if t126 = true then ((spec_l1In.f ((rd_T45 l0 a1).f2) (-500) 500).bind fun t127 => (spec_liPart.j0 k (!t127) ((rd_T45 l0 a1).f0) ((rd_T45 l0 a1).f1.f0) ((rd_T45 l0 a1).f1.f1) ((rd_T45 l0 a1).f2) ((rd_T45 l0 a1).f3) ((rd_T45 l0 a1).f4))) else (spec_liPart.j0 k true ((rd_T45 l0 a1).f0) ((rd_T45 l0 a1).f1.f0) ((rd_T45 l0 a1).f1.f1) ((rd_T45 l0 a1).f2) ((rd_T45 l0 a1).f3) ((rd_T45 l0 a1).f4))))) else (none)) else (none)) else ((spec_hoOne.f ((rd_T45 l0 a1).f1.f0) ((rd_T45 l0 a1).f1.f1)).bind fun t128 => (if t128 = true then ((spec_l1In.f ((rd_T45 l0 a1).f2) (-500) 500).bind fun t129 => (spec_liPart.j0 k (!t129) ((rd_T45 l0 a1).f0) ((rd_T45 l0 a1).f1.f0) ((rd_T45 l0 a1).f1.f1) ((rd_T45 l0 a1).f2) ((rd_T45 l0 a1).f3) ((rd_T45 l0 a1).f4))) else (spec_liPart.j0 k true ((rd_T45 l0 a1).f0) ((rd_T45 l0 a1).f1.f0) ((rd_T45 l0 a1).f1.f1) ((rd_T45 l0 a1).f2) ((rd_T45 l0 a1).f3) ((rd_T45 l0 a1).f4))))) = some r := by rw [if_pos rfl] at H; exact H
  clear H
  have H := H1
  clear H1
  by_cases c10 : ((rd_T45 l0 a1).f0) ≥ 0
  case neg =>
   rw [if_neg c10] at H
   have c10b0 : decide (0 ≤ ((rd_T45 l0 a1).f0)) = false := decide_eq_false c10
   clear c10
   (first | rw [c10b0] | (simp only [i64_w, i32_w]; rw [c10b0]) | skip)
   replace H := Option.bind_eq_some_iff.mp H
   obtain ⟨t128, A230, H⟩ := H
   replace H : (if t128 = true then ((spec_l1In.f ((rd_T45 l0 a1).f2) (-500) 500).bind fun t129 => (spec_liPart.j0 k (!t129) ((rd_T45 l0 a1).f0) ((rd_T45 l0 a1).f1.f0) ((rd_T45 l0 a1).f1.f1) ((rd_T45 l0 a1).f2) ((rd_T45 l0 a1).f3) ((rd_T45 l0 a1).f4))) else (spec_liPart.j0 k true ((rd_T45 l0 a1).f0) ((rd_T45 l0 a1).f1.f0) ((rd_T45 l0 a1).f1.f1) ((rd_T45 l0 a1).f2) ((rd_T45 l0 a1).f3) ((rd_T45 l0 a1).f4))) = some r := H
   have A23 := Aside0.mk A230
   clear A230
   by_cases c24 : t128 = true
   case neg =>
    replace c24 := Bool.eq_false_iff.mpr c24
    subst c24
    have H1 : (spec_liPart.j0 k true ((rd_T45 l0 a1).f0) ((rd_T45 l0 a1).f1.f0) ((rd_T45 l0 a1).f1.f1) ((rd_T45 l0 a1).f2) ((rd_T45 l0 a1).f3) ((rd_T45 l0 a1).f4)) = some r := by rw [if_neg (show ¬ (false = true) by decide)] at H; exact H
    clear H
    have H := H1
    clear H1
    have H' := Aside0.mk H
    clear H
    obtain ⟨hcz29_0, hcz29_1, hcz29_2, hcz29_3, hcz29_4, hcz29_5, hfz29_0, hfz29_1, hfz29_2, hfz29_3, hfz29_4, hfz29_5⟩ := blk6_ BK123.out
    go_wp2_with (first | ((with_reducible refine gate_callee (f := 67) rfl ?_); refine goesL_ (some 16) rfl rfl Try.func67 (by kernel_rfl) rfl #[.int .i64 ((rd_T45 l0 a1).f0), .int .i64 (-1), .int .i64 (wrap64 (a1 - 1))] rfl (by (try simp only [List.map_toArray, List.map_cons, List.map_nil]); first | done | rfl) ?_; (with_reducible refine (spec_l1In.calls ((rd_T45 l0 a1).f0) (-1) (wrap64 (a1 - 1)) true _ A8.out).mono ?_); rintro e w' ⟨rfl, ⟨nd, rfl⟩⟩; refine ⟨_, rfl, ?_⟩) | (go_at_call 72; (with_reducible refine (spec_hoOne.calls ((rd_T45 l0 a1).f1.f0) ((rd_T45 l0 a1).f1.f1) false _ A23.out).mono ?_); rintro e w30 ⟨rfl, hb⟩; have n0_ := Aside0.mk (blk_below (g := gb123) (o := .cells #[.int .i64 ((rd_T45 l0 a1).f0), .int .i64 ((rd_T45 l0 a1).f1.f0), .int .i64 ((rd_T45 l0 a1).f1.f1), .int .i64 ((rd_T45 l0 a1).f2), .int .i64 ((rd_T45 l0 a1).f3), .int .i64 ((rd_T45 l0 a1).f4)] 45 (0, 0)) (by (with_reducible repeat (first | refine blk_drewN ?_ _ | refine blk_drew ?_ | refine blk_alloc ?_ _)); refine blk_put (cs := #[.int .i64 ((rd_T45 l0 a1).f0), .int .i64 ((rd_T45 l0 a1).f1.f0), .int .i64 ((rd_T45 l0 a1).f1.f1), .int .i64 ((rd_T45 l0 a1).f2), .int .i64 ((rd_T45 l0 a1).f3), .int .i64 0]) ?_ 5 _ rfl; (with_reducible repeat (first | refine blk_drewN ?_ _ | refine blk_drew ?_ | refine blk_alloc ?_ _)); refine blk_put (cs := #[.int .i64 ((rd_T45 l0 a1).f0), .int .i64 ((rd_T45 l0 a1).f1.f0), .int .i64 ((rd_T45 l0 a1).f1.f1), .int .i64 ((rd_T45 l0 a1).f2), .int .i64 0, .int .i64 0]) ?_ 4 _ rfl; (with_reducible repeat (first | refine blk_drewN ?_ _ | refine blk_drew ?_ | refine blk_alloc ?_ _)); refine blk_put (cs := #[.int .i64 ((rd_T45 l0 a1).f0), .int .i64 ((rd_T45 l0 a1).f1.f0), .int .i64 ((rd_T45 l0 a1).f1.f1), .int .i64 0, .int .i64 0, .int .i64 0]) ?_ 3 _ rfl; (with_reducible repeat (first | refine blk_drewN ?_ _ | refine blk_drew ?_ | refine blk_alloc ?_ _)); refine blk_put (cs := #[.int .i64 ((rd_T45 l0 a1).f0), .int .i64 ((rd_T45 l0 a1).f1.f0), .int .i64 0, .int .i64 0, .int .i64 0, .int .i64 0]) ?_ 2 _ rfl; (with_reducible repeat (first | refine blk_drewN ?_ _ | refine blk_drew ?_ | refine blk_alloc ?_ _)); refine blk_put (cs := #[.int .i64 ((rd_T45 l0 a1).f0), .int .i64 0, .int .i64 0, .int .i64 0, .int .i64 0, .int .i64 0]) ?_ 1 _ rfl; (with_reducible repeat (first | refine blk_drewN ?_ _ | refine blk_drew ?_ | refine blk_alloc ?_ _)); refine blk_put (cs := #[.int .i64 0, .int .i64 0, .int .i64 0, .int .i64 0, .int .i64 0, .int .i64 0]) ?_ 0 _ rfl; (with_reducible repeat (first | refine blk_drewN ?_ _ | refine blk_drew ?_ | refine blk_alloc ?_ _)); exact BK123.out) hb); have n1_ := Aside0.mk (below_step (by repeat (first | (with_reducible first | exact HB.out | apply bA_ | apply bN_ | apply b1_ | refine below_set ?_ GE123.out) | exact HB.out)) hb); clear BK123; clear HB; have BK123 := n0_; have HB := n1_; clear n0_ n1_; (try clear hb); (try clear hb2); (try clear hk); (try clear hi)))
    go_meet
    case rel => exact ⟨_, (true), (by first | rfl | (simp; done) | (simp [*]; done)), H', ⟨by first | omega | exact Nat.le_refl _⟩, ⟨by (with_reducible repeat (first | refine blk_drewN ?_ _ | refine blk_drew ?_ | refine blk_alloc ?_ _)); exact BK123.out⟩, ⟨by repeat (first | (with_reducible first | exact HB.out | apply bA_ | apply bN_ | apply b1_ | refine below_set ?_ GE123.out) | exact HB.out)⟩⟩
   subst c24
   have H1 : ((spec_l1In.f ((rd_T45 l0 a1).f2) (-500) 500).bind fun t129 => (spec_liPart.j0 k (!t129) ((rd_T45 l0 a1).f0) ((rd_T45 l0 a1).f1.f0) ((rd_T45 l0 a1).f1.f1) ((rd_T45 l0 a1).f2) ((rd_T45 l0 a1).f3) ((rd_T45 l0 a1).f4))) = some r := by rw [if_pos rfl] at H; exact H
   clear H
   have H := H1
   clear H1
   replace H := Option.bind_eq_some_iff.mp H
   obtain ⟨t129, A250, H⟩ := H
   replace H : (spec_liPart.j0 k (!t129) ((rd_T45 l0 a1).f0) ((rd_T45 l0 a1).f1.f0) ((rd_T45 l0 a1).f1.f1) ((rd_T45 l0 a1).f2) ((rd_T45 l0 a1).f3) ((rd_T45 l0 a1).f4)) = some r := H
   have A25 := Aside0.mk A250
   clear A250
   have H' := Aside0.mk H
   clear H
   obtain ⟨hcz26_0, hcz26_1, hcz26_2, hcz26_3, hcz26_4, hcz26_5, hfz26_0, hfz26_1, hfz26_2, hfz26_3, hfz26_4, hfz26_5⟩ := blk6_ BK123.out
   go_wp2_with (first | ((with_reducible refine gate_callee (f := 67) rfl ?_); refine goesL_ (some 16) rfl rfl Try.func67 (by kernel_rfl) rfl #[.int .i64 ((rd_T45 l0 a1).f0), .int .i64 (-1), .int .i64 (wrap64 (a1 - 1))] rfl (by (try simp only [List.map_toArray, List.map_cons, List.map_nil]); first | done | rfl) ?_; (with_reducible refine (spec_l1In.calls ((rd_T45 l0 a1).f0) (-1) (wrap64 (a1 - 1)) true _ A8.out).mono ?_); rintro e w' ⟨rfl, ⟨nd, rfl⟩⟩; refine ⟨_, rfl, ?_⟩) | (go_at_call 72; (with_reducible refine (spec_hoOne.calls ((rd_T45 l0 a1).f1.f0) ((rd_T45 l0 a1).f1.f1) true _ A23.out).mono ?_); rintro e w27 ⟨rfl, hb⟩; have n0_ := Aside0.mk (blk_below (g := gb123) (o := .cells #[.int .i64 ((rd_T45 l0 a1).f0), .int .i64 ((rd_T45 l0 a1).f1.f0), .int .i64 ((rd_T45 l0 a1).f1.f1), .int .i64 ((rd_T45 l0 a1).f2), .int .i64 ((rd_T45 l0 a1).f3), .int .i64 ((rd_T45 l0 a1).f4)] 45 (0, 0)) (by (with_reducible repeat (first | refine blk_drewN ?_ _ | refine blk_drew ?_ | refine blk_alloc ?_ _)); refine blk_put (cs := #[.int .i64 ((rd_T45 l0 a1).f0), .int .i64 ((rd_T45 l0 a1).f1.f0), .int .i64 ((rd_T45 l0 a1).f1.f1), .int .i64 ((rd_T45 l0 a1).f2), .int .i64 ((rd_T45 l0 a1).f3), .int .i64 0]) ?_ 5 _ rfl; (with_reducible repeat (first | refine blk_drewN ?_ _ | refine blk_drew ?_ | refine blk_alloc ?_ _)); refine blk_put (cs := #[.int .i64 ((rd_T45 l0 a1).f0), .int .i64 ((rd_T45 l0 a1).f1.f0), .int .i64 ((rd_T45 l0 a1).f1.f1), .int .i64 ((rd_T45 l0 a1).f2), .int .i64 0, .int .i64 0]) ?_ 4 _ rfl; (with_reducible repeat (first | refine blk_drewN ?_ _ | refine blk_drew ?_ | refine blk_alloc ?_ _)); refine blk_put (cs := #[.int .i64 ((rd_T45 l0 a1).f0), .int .i64 ((rd_T45 l0 a1).f1.f0), .int .i64 ((rd_T45 l0 a1).f1.f1), .int .i64 0, .int .i64 0, .int .i64 0]) ?_ 3 _ rfl; (with_reducible repeat (first | refine blk_drewN ?_ _ | refine blk_drew ?_ | refine blk_alloc ?_ _)); refine blk_put (cs := #[.int .i64 ((rd_T45 l0 a1).f0), .int .i64 ((rd_T45 l0 a1).f1.f0), .int .i64 0, .int .i64 0, .int .i64 0, .int .i64 0]) ?_ 2 _ rfl; (with_reducible repeat (first | refine blk_drewN ?_ _ | refine blk_drew ?_ | refine blk_alloc ?_ _)); refine blk_put (cs := #[.int .i64 ((rd_T45 l0 a1).f0), .int .i64 0, .int .i64 0, .int .i64 0, .int .i64 0, .int .i64 0]) ?_ 1 _ rfl; (with_reducible repeat (first | refine blk_drewN ?_ _ | refine blk_drew ?_ | refine blk_alloc ?_ _)); refine blk_put (cs := #[.int .i64 0, .int .i64 0, .int .i64 0, .int .i64 0, .int .i64 0, .int .i64 0]) ?_ 0 _ rfl; (with_reducible repeat (first | refine blk_drewN ?_ _ | refine blk_drew ?_ | refine blk_alloc ?_ _)); exact BK123.out) hb); have n1_ := Aside0.mk (below_step (by repeat (first | (with_reducible first | exact HB.out | apply bA_ | apply bN_ | apply b1_ | refine below_set ?_ GE123.out) | exact HB.out)) hb); clear BK123; clear HB; have BK123 := n0_; have HB := n1_; clear n0_ n1_; (try clear hb); (try clear hb2); (try clear hk); (try clear hi); obtain ⟨hcz28_0, hcz28_1, hcz28_2, hcz28_3, hcz28_4, hcz28_5, hfz28_0, hfz28_1, hfz28_2, hfz28_3, hfz28_4, hfz28_5⟩ := blk6_ BK123.out) | (go_at_call 67; (with_reducible refine (spec_l1In.calls ((rd_T45 l0 a1).f2) (-500) 500 t129 _ A25.out).mono ?_); rintro e w' ⟨rfl, ⟨nd, rfl⟩⟩))
   go_meet
   case rel => exact ⟨_, (!t129), (by first | rfl | (simp; done) | (simp [*]; done)), H', ⟨by first | omega | exact Nat.le_refl _⟩, ⟨by (with_reducible repeat (first | refine blk_drewN ?_ _ | refine blk_drew ?_ | refine blk_alloc ?_ _)); exact BK123.out⟩, ⟨by repeat (first | (with_reducible first | exact HB.out | apply bA_ | apply bN_ | apply b1_ | refine below_set ?_ GE123.out) | exact HB.out)⟩⟩
  rw [if_pos c10] at H
  have c10b0 : decide (0 ≤ ((rd_T45 l0 a1).f0)) = true := decide_eq_true c10
  clear c10
  (first | rw [c10b0] | (simp only [i64_w, i32_w]; rw [c10b0]) | skip)
  by_cases c11 : 0 ≤ ((rd_T45 l0 a1).f0)
  case neg =>
   rw [if_neg c11] at H
   exact absurd H (by simp)
  rw [if_pos c11] at H
  have c11b0 : decide (0 ≤ ((rd_T45 l0 a1).f0)) = true := decide_eq_true c11
  clear c11
  by_cases c12 : ((rd_T45 l0 a1).f0) < (l0.length : Int)
  case neg =>
   rw [if_neg c12] at H
   exact absurd H (by simp)
  rw [if_pos c12] at H
  have c12b0 : decide (((rd_T45 l0 a1).f0) < (l0.length : Int)) = true := decide_eq_true c12
  clear c12
  by_cases c13 : ((rd_T45 l0 ((rd_T45 l0 a1).f0)).f3) > 0
  case neg =>
   rw [if_neg c13] at H
   have c13b0 : decide (0 < ((rd_T45 l0 ((rd_T45 l0 a1).f0)).f3)) = false := decide_eq_false c13
   clear c13
   replace H := Option.bind_eq_some_iff.mp H
   obtain ⟨t126, A150, H⟩ := H
   replace H : (if t126 = true then ((spec_l1In.f ((rd_T45 l0 a1).f2) (-500) 500).bind fun t127 => (spec_liPart.j0 k (!t127) ((rd_T45 l0 a1).f0) ((rd_T45 l0 a1).f1.f0) ((rd_T45 l0 a1).f1.f1) ((rd_T45 l0 a1).f2) ((rd_T45 l0 a1).f3) ((rd_T45 l0 a1).f4))) else (spec_liPart.j0 k true ((rd_T45 l0 a1).f0) ((rd_T45 l0 a1).f1.f0) ((rd_T45 l0 a1).f1.f1) ((rd_T45 l0 a1).f2) ((rd_T45 l0 a1).f3) ((rd_T45 l0 a1).f4))) = some r := H
   have A15 := Aside0.mk A150
   clear A150
   by_cases c16 : t126 = true
   case neg =>
    replace c16 := Bool.eq_false_iff.mpr c16
    subst c16
    have H1 : (spec_liPart.j0 k true ((rd_T45 l0 a1).f0) ((rd_T45 l0 a1).f1.f0) ((rd_T45 l0 a1).f1.f1) ((rd_T45 l0 a1).f2) ((rd_T45 l0 a1).f3) ((rd_T45 l0 a1).f4)) = some r := by rw [if_neg (show ¬ (false = true) by decide)] at H; exact H
    clear H
    have H := H1
    clear H1
    have H' := Aside0.mk H
    clear H
    obtain ⟨hcz21_0, hcz21_1, hcz21_2, hcz21_3, hcz21_4, hcz21_5, hfz21_0, hfz21_1, hfz21_2, hfz21_3, hfz21_4, hfz21_5⟩ := blk6_ BK123.out
    go_wp2_with (first | ((with_reducible refine gate_callee (f := 67) rfl ?_); refine goesL_ (some 16) rfl rfl Try.func67 (by kernel_rfl) rfl #[.int .i64 ((rd_T45 l0 a1).f0), .int .i64 (-1), .int .i64 (wrap64 (a1 - 1))] rfl (by (try simp only [List.map_toArray, List.map_cons, List.map_nil]); first | done | rfl) ?_; (with_reducible refine (spec_l1In.calls ((rd_T45 l0 a1).f0) (-1) (wrap64 (a1 - 1)) true _ A8.out).mono ?_); rintro e w' ⟨rfl, ⟨nd, rfl⟩⟩; refine ⟨_, rfl, ?_⟩; have p125 : 0 ≤ (((rd_T45 l0 a1).f0) : Int) := of_decide_eq_true (by first|with_reducible assumption|assumption); have q125 : ((rd_T45 l0 a1).f0) < (l0.length : Int) := of_decide_eq_true (by first|with_reducible assumption|assumption); obtain ⟨ad125, e125, hx125_0, hx125_1, hx125_2, hx125_3, hx125_4, hx125_5⟩ := at_T45 HR0.out ((rd_T45 l0 a1).f0) p125 q125; obtain rfl : ad122 = ad125 := (by injection e125); have hn125_0 : ad122.block ≠ gb123 := Nat.ne_of_lt (Nat.lt_of_lt_of_le (by have := World.block_lt_of_cell? _ _ hx125_0; first | rwa [add_block] at this | exact this) GW123.out); have hn125_1 : ad122.block ≠ gb123 := Nat.ne_of_lt (Nat.lt_of_lt_of_le (by have := World.block_lt_of_cell? _ _ hx125_0; first | rwa [add_block] at this | exact this) GW123.out); have hn125_2 : ad122.block ≠ gb123 := Nat.ne_of_lt (Nat.lt_of_lt_of_le (by have := World.block_lt_of_cell? _ _ hx125_0; first | rwa [add_block] at this | exact this) GW123.out); have hn125_3 : ad122.block ≠ gb123 := Nat.ne_of_lt (Nat.lt_of_lt_of_le (by have := World.block_lt_of_cell? _ _ hx125_0; first | rwa [add_block] at this | exact this) GW123.out); have hn125_4 : ad122.block ≠ gb123 := Nat.ne_of_lt (Nat.lt_of_lt_of_le (by have := World.block_lt_of_cell? _ _ hx125_0; first | rwa [add_block] at this | exact this) GW123.out); have hn125_5 : ad122.block ≠ gb123 := Nat.ne_of_lt (Nat.lt_of_lt_of_le (by have := World.block_lt_of_cell? _ _ hx125_0; first | rwa [add_block] at this | exact this) GW123.out); replace hx125_0 := cl_ HB.out hx125_0; replace hx125_1 := cl_ HB.out hx125_1; replace hx125_2 := cl_ HB.out hx125_2; replace hx125_3 := cl_ HB.out hx125_3; replace hx125_4 := cl_ HB.out hx125_4; replace hx125_5 := cl_ HB.out hx125_5; replace hx125_0 := (cell_far (p := ⟨gb123, 0, none⟩) (by first | exact ab_ hn125_0 | exact hn125_0) (.int .i64 ((rd_T45 l0 a1).f0))).trans hx125_0; replace hx125_1 := (cell_far (p := ⟨gb123, 0, none⟩) (by first | exact ab_ hn125_0 | exact hn125_0) (.int .i64 ((rd_T45 l0 a1).f0))).trans hx125_1; replace hx125_2 := (cell_far (p := ⟨gb123, 0, none⟩) (by first | exact ab_ hn125_0 | exact hn125_0) (.int .i64 ((rd_T45 l0 a1).f0))).trans hx125_2; replace hx125_3 := (cell_far (p := ⟨gb123, 0, none⟩) (by first | exact ab_ hn125_0 | exact hn125_0) (.int .i64 ((rd_T45 l0 a1).f0))).trans hx125_3; replace hx125_4 := (cell_far (p := ⟨gb123, 0, none⟩) (by first | exact ab_ hn125_0 | exact hn125_0) (.int .i64 ((rd_T45 l0 a1).f0))).trans hx125_4; replace hx125_5 := (cell_far (p := ⟨gb123, 0, none⟩) (by first | exact ab_ hn125_0 | exact hn125_0) (.int .i64 ((rd_T45 l0 a1).f0))).trans hx125_5; replace hx125_0 := (cell_far (p := ⟨gb123, 1, none⟩) (by first | exact ab_ hn125_1 | exact hn125_1) (.int .i64 ((rd_T45 l0 a1).f1.f0))).trans hx125_0; replace hx125_1 := (cell_far (p := ⟨gb123, 1, none⟩) (by first | exact ab_ hn125_1 | exact hn125_1) (.int .i64 ((rd_T45 l0 a1).f1.f0))).trans hx125_1; replace hx125_2 := (cell_far (p := ⟨gb123, 1, none⟩) (by first | exact ab_ hn125_1 | exact hn125_1) (.int .i64 ((rd_T45 l0 a1).f1.f0))).trans hx125_2; replace hx125_3 := (cell_far (p := ⟨gb123, 1, none⟩) (by first | exact ab_ hn125_1 | exact hn125_1) (.int .i64 ((rd_T45 l0 a1).f1.f0))).trans hx125_3; replace hx125_4 := (cell_far (p := ⟨gb123, 1, none⟩) (by first | exact ab_ hn125_1 | exact hn125_1) (.int .i64 ((rd_T45 l0 a1).f1.f0))).trans hx125_4; replace hx125_5 := (cell_far (p := ⟨gb123, 1, none⟩) (by first | exact ab_ hn125_1 | exact hn125_1) (.int .i64 ((rd_T45 l0 a1).f1.f0))).trans hx125_5; replace hx125_0 := (cell_far (p := ⟨gb123, 2, none⟩) (by first | exact ab_ hn125_2 | exact hn125_2) (.int .i64 ((rd_T45 l0 a1).f1.f1))).trans hx125_0; replace hx125_1 := (cell_far (p := ⟨gb123, 2, none⟩) (by first | exact ab_ hn125_2 | exact hn125_2) (.int .i64 ((rd_T45 l0 a1).f1.f1))).trans hx125_1; replace hx125_2 := (cell_far (p := ⟨gb123, 2, none⟩) (by first | exact ab_ hn125_2 | exact hn125_2) (.int .i64 ((rd_T45 l0 a1).f1.f1))).trans hx125_2; replace hx125_3 := (cell_far (p := ⟨gb123, 2, none⟩) (by first | exact ab_ hn125_2 | exact hn125_2) (.int .i64 ((rd_T45 l0 a1).f1.f1))).trans hx125_3; replace hx125_4 := (cell_far (p := ⟨gb123, 2, none⟩) (by first | exact ab_ hn125_2 | exact hn125_2) (.int .i64 ((rd_T45 l0 a1).f1.f1))).trans hx125_4; replace hx125_5 := (cell_far (p := ⟨gb123, 2, none⟩) (by first | exact ab_ hn125_2 | exact hn125_2) (.int .i64 ((rd_T45 l0 a1).f1.f1))).trans hx125_5; replace hx125_0 := (cell_far (p := ⟨gb123, 3, none⟩) (by first | exact ab_ hn125_3 | exact hn125_3) (.int .i64 ((rd_T45 l0 a1).f2))).trans hx125_0; replace hx125_1 := (cell_far (p := ⟨gb123, 3, none⟩) (by first | exact ab_ hn125_3 | exact hn125_3) (.int .i64 ((rd_T45 l0 a1).f2))).trans hx125_1; replace hx125_2 := (cell_far (p := ⟨gb123, 3, none⟩) (by first | exact ab_ hn125_3 | exact hn125_3) (.int .i64 ((rd_T45 l0 a1).f2))).trans hx125_2; replace hx125_3 := (cell_far (p := ⟨gb123, 3, none⟩) (by first | exact ab_ hn125_3 | exact hn125_3) (.int .i64 ((rd_T45 l0 a1).f2))).trans hx125_3; replace hx125_4 := (cell_far (p := ⟨gb123, 3, none⟩) (by first | exact ab_ hn125_3 | exact hn125_3) (.int .i64 ((rd_T45 l0 a1).f2))).trans hx125_4; replace hx125_5 := (cell_far (p := ⟨gb123, 3, none⟩) (by first | exact ab_ hn125_3 | exact hn125_3) (.int .i64 ((rd_T45 l0 a1).f2))).trans hx125_5; replace hx125_0 := (cell_far (p := ⟨gb123, 4, none⟩) (by first | exact ab_ hn125_4 | exact hn125_4) (.int .i64 ((rd_T45 l0 a1).f3))).trans hx125_0; replace hx125_1 := (cell_far (p := ⟨gb123, 4, none⟩) (by first | exact ab_ hn125_4 | exact hn125_4) (.int .i64 ((rd_T45 l0 a1).f3))).trans hx125_1; replace hx125_2 := (cell_far (p := ⟨gb123, 4, none⟩) (by first | exact ab_ hn125_4 | exact hn125_4) (.int .i64 ((rd_T45 l0 a1).f3))).trans hx125_2; replace hx125_3 := (cell_far (p := ⟨gb123, 4, none⟩) (by first | exact ab_ hn125_4 | exact hn125_4) (.int .i64 ((rd_T45 l0 a1).f3))).trans hx125_3; replace hx125_4 := (cell_far (p := ⟨gb123, 4, none⟩) (by first | exact ab_ hn125_4 | exact hn125_4) (.int .i64 ((rd_T45 l0 a1).f3))).trans hx125_4; replace hx125_5 := (cell_far (p := ⟨gb123, 4, none⟩) (by first | exact ab_ hn125_4 | exact hn125_4) (.int .i64 ((rd_T45 l0 a1).f3))).trans hx125_5; replace hx125_0 := (cell_far (p := ⟨gb123, 5, none⟩) (by first | exact ab_ hn125_5 | exact hn125_5) (.int .i64 ((rd_T45 l0 a1).f4))).trans hx125_0; replace hx125_1 := (cell_far (p := ⟨gb123, 5, none⟩) (by first | exact ab_ hn125_5 | exact hn125_5) (.int .i64 ((rd_T45 l0 a1).f4))).trans hx125_1; replace hx125_2 := (cell_far (p := ⟨gb123, 5, none⟩) (by first | exact ab_ hn125_5 | exact hn125_5) (.int .i64 ((rd_T45 l0 a1).f4))).trans hx125_2; replace hx125_3 := (cell_far (p := ⟨gb123, 5, none⟩) (by first | exact ab_ hn125_5 | exact hn125_5) (.int .i64 ((rd_T45 l0 a1).f4))).trans hx125_3; replace hx125_4 := (cell_far (p := ⟨gb123, 5, none⟩) (by first | exact ab_ hn125_5 | exact hn125_5) (.int .i64 ((rd_T45 l0 a1).f4))).trans hx125_4; replace hx125_5 := (cell_far (p := ⟨gb123, 5, none⟩) (by first | exact ab_ hn125_5 | exact hn125_5) (.int .i64 ((rd_T45 l0 a1).f4))).trans hx125_5; clear hn125_0; clear hn125_1; clear hn125_2; clear hn125_3; clear hn125_4; clear hn125_5; replace p125 := eq_true p125; replace q125 := eq_true q125) | (go_at_call 72; (with_reducible refine (spec_hoOne.calls ((rd_T45 l0 a1).f1.f0) ((rd_T45 l0 a1).f1.f1) false _ A15.out).mono ?_); rintro e w22 ⟨rfl, hb⟩; have n0_ := Aside0.mk (blk_below (g := gb123) (o := .cells #[.int .i64 ((rd_T45 l0 a1).f0), .int .i64 ((rd_T45 l0 a1).f1.f0), .int .i64 ((rd_T45 l0 a1).f1.f1), .int .i64 ((rd_T45 l0 a1).f2), .int .i64 ((rd_T45 l0 a1).f3), .int .i64 ((rd_T45 l0 a1).f4)] 45 (0, 0)) (by (with_reducible repeat (first | refine blk_drewN ?_ _ | refine blk_drew ?_ | refine blk_alloc ?_ _)); refine blk_put (cs := #[.int .i64 ((rd_T45 l0 a1).f0), .int .i64 ((rd_T45 l0 a1).f1.f0), .int .i64 ((rd_T45 l0 a1).f1.f1), .int .i64 ((rd_T45 l0 a1).f2), .int .i64 ((rd_T45 l0 a1).f3), .int .i64 0]) ?_ 5 _ rfl; (with_reducible repeat (first | refine blk_drewN ?_ _ | refine blk_drew ?_ | refine blk_alloc ?_ _)); refine blk_put (cs := #[.int .i64 ((rd_T45 l0 a1).f0), .int .i64 ((rd_T45 l0 a1).f1.f0), .int .i64 ((rd_T45 l0 a1).f1.f1), .int .i64 ((rd_T45 l0 a1).f2), .int .i64 0, .int .i64 0]) ?_ 4 _ rfl; (with_reducible repeat (first | refine blk_drewN ?_ _ | refine blk_drew ?_ | refine blk_alloc ?_ _)); refine blk_put (cs := #[.int .i64 ((rd_T45 l0 a1).f0), .int .i64 ((rd_T45 l0 a1).f1.f0), .int .i64 ((rd_T45 l0 a1).f1.f1), .int .i64 0, .int .i64 0, .int .i64 0]) ?_ 3 _ rfl; (with_reducible repeat (first | refine blk_drewN ?_ _ | refine blk_drew ?_ | refine blk_alloc ?_ _)); refine blk_put (cs := #[.int .i64 ((rd_T45 l0 a1).f0), .int .i64 ((rd_T45 l0 a1).f1.f0), .int .i64 0, .int .i64 0, .int .i64 0, .int .i64 0]) ?_ 2 _ rfl; (with_reducible repeat (first | refine blk_drewN ?_ _ | refine blk_drew ?_ | refine blk_alloc ?_ _)); refine blk_put (cs := #[.int .i64 ((rd_T45 l0 a1).f0), .int .i64 0, .int .i64 0, .int .i64 0, .int .i64 0, .int .i64 0]) ?_ 1 _ rfl; (with_reducible repeat (first | refine blk_drewN ?_ _ | refine blk_drew ?_ | refine blk_alloc ?_ _)); refine blk_put (cs := #[.int .i64 0, .int .i64 0, .int .i64 0, .int .i64 0, .int .i64 0, .int .i64 0]) ?_ 0 _ rfl; (with_reducible repeat (first | refine blk_drewN ?_ _ | refine blk_drew ?_ | refine blk_alloc ?_ _)); exact BK123.out) hb); have n1_ := Aside0.mk (below_step (by repeat (first | (with_reducible first | exact HB.out | apply bA_ | apply bN_ | apply b1_ | refine below_set ?_ GE123.out) | exact HB.out)) hb); clear BK123; clear HB; have BK123 := n0_; have HB := n1_; clear n0_ n1_; (try clear hb); (try clear hb2); (try clear hk); (try clear hi)))
    go_meet
    case rel => exact ⟨_, (true), (by first | rfl | (simp; done) | (simp [*]; done)), H', ⟨by first | omega | exact Nat.le_refl _⟩, ⟨by (with_reducible repeat (first | refine blk_drewN ?_ _ | refine blk_drew ?_ | refine blk_alloc ?_ _)); exact BK123.out⟩, ⟨by repeat (first | (with_reducible first | exact HB.out | apply bA_ | apply bN_ | apply b1_ | refine below_set ?_ GE123.out) | exact HB.out)⟩⟩
   subst c16
   have H1 : ((spec_l1In.f ((rd_T45 l0 a1).f2) (-500) 500).bind fun t127 => (spec_liPart.j0 k (!t127) ((rd_T45 l0 a1).f0) ((rd_T45 l0 a1).f1.f0) ((rd_T45 l0 a1).f1.f1) ((rd_T45 l0 a1).f2) ((rd_T45 l0 a1).f3) ((rd_T45 l0 a1).f4))) = some r := by rw [if_pos rfl] at H; exact H
   clear H
   have H := H1
   clear H1
   replace H := Option.bind_eq_some_iff.mp H
   obtain ⟨t127, A170, H⟩ := H
   replace H : (spec_liPart.j0 k (!t127) ((rd_T45 l0 a1).f0) ((rd_T45 l0 a1).f1.f0) ((rd_T45 l0 a1).f1.f1) ((rd_T45 l0 a1).f2) ((rd_T45 l0 a1).f3) ((rd_T45 l0 a1).f4)) = some r := H
   have A17 := Aside0.mk A170
   clear A170
   have H' := Aside0.mk H
   clear H
   obtain ⟨hcz18_0, hcz18_1, hcz18_2, hcz18_3, hcz18_4, hcz18_5, hfz18_0, hfz18_1, hfz18_2, hfz18_3, hfz18_4, hfz18_5⟩ := blk6_ BK123.out
   go_wp2_with (first | ((with_reducible refine gate_callee (f := 67) rfl ?_); refine goesL_ (some 16) rfl rfl Try.func67 (by kernel_rfl) rfl #[.int .i64 ((rd_T45 l0 a1).f0), .int .i64 (-1), .int .i64 (wrap64 (a1 - 1))] rfl (by (try simp only [List.map_toArray, List.map_cons, List.map_nil]); first | done | rfl) ?_; (with_reducible refine (spec_l1In.calls ((rd_T45 l0 a1).f0) (-1) (wrap64 (a1 - 1)) true _ A8.out).mono ?_); rintro e w' ⟨rfl, ⟨nd, rfl⟩⟩; refine ⟨_, rfl, ?_⟩; have p125 : 0 ≤ (((rd_T45 l0 a1).f0) : Int) := of_decide_eq_true (by first|with_reducible assumption|assumption); have q125 : ((rd_T45 l0 a1).f0) < (l0.length : Int) := of_decide_eq_true (by first|with_reducible assumption|assumption); obtain ⟨ad125, e125, hx125_0, hx125_1, hx125_2, hx125_3, hx125_4, hx125_5⟩ := at_T45 HR0.out ((rd_T45 l0 a1).f0) p125 q125; obtain rfl : ad122 = ad125 := (by injection e125); have hn125_0 : ad122.block ≠ gb123 := Nat.ne_of_lt (Nat.lt_of_lt_of_le (by have := World.block_lt_of_cell? _ _ hx125_0; first | rwa [add_block] at this | exact this) GW123.out); have hn125_1 : ad122.block ≠ gb123 := Nat.ne_of_lt (Nat.lt_of_lt_of_le (by have := World.block_lt_of_cell? _ _ hx125_0; first | rwa [add_block] at this | exact this) GW123.out); have hn125_2 : ad122.block ≠ gb123 := Nat.ne_of_lt (Nat.lt_of_lt_of_le (by have := World.block_lt_of_cell? _ _ hx125_0; first | rwa [add_block] at this | exact this) GW123.out); have hn125_3 : ad122.block ≠ gb123 := Nat.ne_of_lt (Nat.lt_of_lt_of_le (by have := World.block_lt_of_cell? _ _ hx125_0; first | rwa [add_block] at this | exact this) GW123.out); have hn125_4 : ad122.block ≠ gb123 := Nat.ne_of_lt (Nat.lt_of_lt_of_le (by have := World.block_lt_of_cell? _ _ hx125_0; first | rwa [add_block] at this | exact this) GW123.out); have hn125_5 : ad122.block ≠ gb123 := Nat.ne_of_lt (Nat.lt_of_lt_of_le (by have := World.block_lt_of_cell? _ _ hx125_0; first | rwa [add_block] at this | exact this) GW123.out); replace hx125_0 := cl_ HB.out hx125_0; replace hx125_1 := cl_ HB.out hx125_1; replace hx125_2 := cl_ HB.out hx125_2; replace hx125_3 := cl_ HB.out hx125_3; replace hx125_4 := cl_ HB.out hx125_4; replace hx125_5 := cl_ HB.out hx125_5; replace hx125_0 := (cell_far (p := ⟨gb123, 0, none⟩) (by first | exact ab_ hn125_0 | exact hn125_0) (.int .i64 ((rd_T45 l0 a1).f0))).trans hx125_0; replace hx125_1 := (cell_far (p := ⟨gb123, 0, none⟩) (by first | exact ab_ hn125_0 | exact hn125_0) (.int .i64 ((rd_T45 l0 a1).f0))).trans hx125_1; replace hx125_2 := (cell_far (p := ⟨gb123, 0, none⟩) (by first | exact ab_ hn125_0 | exact hn125_0) (.int .i64 ((rd_T45 l0 a1).f0))).trans hx125_2; replace hx125_3 := (cell_far (p := ⟨gb123, 0, none⟩) (by first | exact ab_ hn125_0 | exact hn125_0) (.int .i64 ((rd_T45 l0 a1).f0))).trans hx125_3; replace hx125_4 := (cell_far (p := ⟨gb123, 0, none⟩) (by first | exact ab_ hn125_0 | exact hn125_0) (.int .i64 ((rd_T45 l0 a1).f0))).trans hx125_4; replace hx125_5 := (cell_far (p := ⟨gb123, 0, none⟩) (by first | exact ab_ hn125_0 | exact hn125_0) (.int .i64 ((rd_T45 l0 a1).f0))).trans hx125_5; replace hx125_0 := (cell_far (p := ⟨gb123, 1, none⟩) (by first | exact ab_ hn125_1 | exact hn125_1) (.int .i64 ((rd_T45 l0 a1).f1.f0))).trans hx125_0; replace hx125_1 := (cell_far (p := ⟨gb123, 1, none⟩) (by first | exact ab_ hn125_1 | exact hn125_1) (.int .i64 ((rd_T45 l0 a1).f1.f0))).trans hx125_1; replace hx125_2 := (cell_far (p := ⟨gb123, 1, none⟩) (by first | exact ab_ hn125_1 | exact hn125_1) (.int .i64 ((rd_T45 l0 a1).f1.f0))).trans hx125_2; replace hx125_3 := (cell_far (p := ⟨gb123, 1, none⟩) (by first | exact ab_ hn125_1 | exact hn125_1) (.int .i64 ((rd_T45 l0 a1).f1.f0))).trans hx125_3; replace hx125_4 := (cell_far (p := ⟨gb123, 1, none⟩) (by first | exact ab_ hn125_1 | exact hn125_1) (.int .i64 ((rd_T45 l0 a1).f1.f0))).trans hx125_4; replace hx125_5 := (cell_far (p := ⟨gb123, 1, none⟩) (by first | exact ab_ hn125_1 | exact hn125_1) (.int .i64 ((rd_T45 l0 a1).f1.f0))).trans hx125_5; replace hx125_0 := (cell_far (p := ⟨gb123, 2, none⟩) (by first | exact ab_ hn125_2 | exact hn125_2) (.int .i64 ((rd_T45 l0 a1).f1.f1))).trans hx125_0; replace hx125_1 := (cell_far (p := ⟨gb123, 2, none⟩) (by first | exact ab_ hn125_2 | exact hn125_2) (.int .i64 ((rd_T45 l0 a1).f1.f1))).trans hx125_1; replace hx125_2 := (cell_far (p := ⟨gb123, 2, none⟩) (by first | exact ab_ hn125_2 | exact hn125_2) (.int .i64 ((rd_T45 l0 a1).f1.f1))).trans hx125_2; replace hx125_3 := (cell_far (p := ⟨gb123, 2, none⟩) (by first | exact ab_ hn125_2 | exact hn125_2) (.int .i64 ((rd_T45 l0 a1).f1.f1))).trans hx125_3; replace hx125_4 := (cell_far (p := ⟨gb123, 2, none⟩) (by first | exact ab_ hn125_2 | exact hn125_2) (.int .i64 ((rd_T45 l0 a1).f1.f1))).trans hx125_4; replace hx125_5 := (cell_far (p := ⟨gb123, 2, none⟩) (by first | exact ab_ hn125_2 | exact hn125_2) (.int .i64 ((rd_T45 l0 a1).f1.f1))).trans hx125_5; replace hx125_0 := (cell_far (p := ⟨gb123, 3, none⟩) (by first | exact ab_ hn125_3 | exact hn125_3) (.int .i64 ((rd_T45 l0 a1).f2))).trans hx125_0; replace hx125_1 := (cell_far (p := ⟨gb123, 3, none⟩) (by first | exact ab_ hn125_3 | exact hn125_3) (.int .i64 ((rd_T45 l0 a1).f2))).trans hx125_1; replace hx125_2 := (cell_far (p := ⟨gb123, 3, none⟩) (by first | exact ab_ hn125_3 | exact hn125_3) (.int .i64 ((rd_T45 l0 a1).f2))).trans hx125_2; replace hx125_3 := (cell_far (p := ⟨gb123, 3, none⟩) (by first | exact ab_ hn125_3 | exact hn125_3) (.int .i64 ((rd_T45 l0 a1).f2))).trans hx125_3; replace hx125_4 := (cell_far (p := ⟨gb123, 3, none⟩) (by first | exact ab_ hn125_3 | exact hn125_3) (.int .i64 ((rd_T45 l0 a1).f2))).trans hx125_4; replace hx125_5 := (cell_far (p := ⟨gb123, 3, none⟩) (by first | exact ab_ hn125_3 | exact hn125_3) (.int .i64 ((rd_T45 l0 a1).f2))).trans hx125_5; replace hx125_0 := (cell_far (p := ⟨gb123, 4, none⟩) (by first | exact ab_ hn125_4 | exact hn125_4) (.int .i64 ((rd_T45 l0 a1).f3))).trans hx125_0; replace hx125_1 := (cell_far (p := ⟨gb123, 4, none⟩) (by first | exact ab_ hn125_4 | exact hn125_4) (.int .i64 ((rd_T45 l0 a1).f3))).trans hx125_1; replace hx125_2 := (cell_far (p := ⟨gb123, 4, none⟩) (by first | exact ab_ hn125_4 | exact hn125_4) (.int .i64 ((rd_T45 l0 a1).f3))).trans hx125_2; replace hx125_3 := (cell_far (p := ⟨gb123, 4, none⟩) (by first | exact ab_ hn125_4 | exact hn125_4) (.int .i64 ((rd_T45 l0 a1).f3))).trans hx125_3; replace hx125_4 := (cell_far (p := ⟨gb123, 4, none⟩) (by first | exact ab_ hn125_4 | exact hn125_4) (.int .i64 ((rd_T45 l0 a1).f3))).trans hx125_4; replace hx125_5 := (cell_far (p := ⟨gb123, 4, none⟩) (by first | exact ab_ hn125_4 | exact hn125_4) (.int .i64 ((rd_T45 l0 a1).f3))).trans hx125_5; replace hx125_0 := (cell_far (p := ⟨gb123, 5, none⟩) (by first | exact ab_ hn125_5 | exact hn125_5) (.int .i64 ((rd_T45 l0 a1).f4))).trans hx125_0; replace hx125_1 := (cell_far (p := ⟨gb123, 5, none⟩) (by first | exact ab_ hn125_5 | exact hn125_5) (.int .i64 ((rd_T45 l0 a1).f4))).trans hx125_1; replace hx125_2 := (cell_far (p := ⟨gb123, 5, none⟩) (by first | exact ab_ hn125_5 | exact hn125_5) (.int .i64 ((rd_T45 l0 a1).f4))).trans hx125_2; replace hx125_3 := (cell_far (p := ⟨gb123, 5, none⟩) (by first | exact ab_ hn125_5 | exact hn125_5) (.int .i64 ((rd_T45 l0 a1).f4))).trans hx125_3; replace hx125_4 := (cell_far (p := ⟨gb123, 5, none⟩) (by first | exact ab_ hn125_5 | exact hn125_5) (.int .i64 ((rd_T45 l0 a1).f4))).trans hx125_4; replace hx125_5 := (cell_far (p := ⟨gb123, 5, none⟩) (by first | exact ab_ hn125_5 | exact hn125_5) (.int .i64 ((rd_T45 l0 a1).f4))).trans hx125_5; clear hn125_0; clear hn125_1; clear hn125_2; clear hn125_3; clear hn125_4; clear hn125_5; replace p125 := eq_true p125; replace q125 := eq_true q125) | (go_at_call 72; (with_reducible refine (spec_hoOne.calls ((rd_T45 l0 a1).f1.f0) ((rd_T45 l0 a1).f1.f1) true _ A15.out).mono ?_); rintro e w19 ⟨rfl, hb⟩; have n0_ := Aside0.mk (blk_below (g := gb123) (o := .cells #[.int .i64 ((rd_T45 l0 a1).f0), .int .i64 ((rd_T45 l0 a1).f1.f0), .int .i64 ((rd_T45 l0 a1).f1.f1), .int .i64 ((rd_T45 l0 a1).f2), .int .i64 ((rd_T45 l0 a1).f3), .int .i64 ((rd_T45 l0 a1).f4)] 45 (0, 0)) (by (with_reducible repeat (first | refine blk_drewN ?_ _ | refine blk_drew ?_ | refine blk_alloc ?_ _)); refine blk_put (cs := #[.int .i64 ((rd_T45 l0 a1).f0), .int .i64 ((rd_T45 l0 a1).f1.f0), .int .i64 ((rd_T45 l0 a1).f1.f1), .int .i64 ((rd_T45 l0 a1).f2), .int .i64 ((rd_T45 l0 a1).f3), .int .i64 0]) ?_ 5 _ rfl; (with_reducible repeat (first | refine blk_drewN ?_ _ | refine blk_drew ?_ | refine blk_alloc ?_ _)); refine blk_put (cs := #[.int .i64 ((rd_T45 l0 a1).f0), .int .i64 ((rd_T45 l0 a1).f1.f0), .int .i64 ((rd_T45 l0 a1).f1.f1), .int .i64 ((rd_T45 l0 a1).f2), .int .i64 0, .int .i64 0]) ?_ 4 _ rfl; (with_reducible repeat (first | refine blk_drewN ?_ _ | refine blk_drew ?_ | refine blk_alloc ?_ _)); refine blk_put (cs := #[.int .i64 ((rd_T45 l0 a1).f0), .int .i64 ((rd_T45 l0 a1).f1.f0), .int .i64 ((rd_T45 l0 a1).f1.f1), .int .i64 0, .int .i64 0, .int .i64 0]) ?_ 3 _ rfl; (with_reducible repeat (first | refine blk_drewN ?_ _ | refine blk_drew ?_ | refine blk_alloc ?_ _)); refine blk_put (cs := #[.int .i64 ((rd_T45 l0 a1).f0), .int .i64 ((rd_T45 l0 a1).f1.f0), .int .i64 0, .int .i64 0, .int .i64 0, .int .i64 0]) ?_ 2 _ rfl; (with_reducible repeat (first | refine blk_drewN ?_ _ | refine blk_drew ?_ | refine blk_alloc ?_ _)); refine blk_put (cs := #[.int .i64 ((rd_T45 l0 a1).f0), .int .i64 0, .int .i64 0, .int .i64 0, .int .i64 0, .int .i64 0]) ?_ 1 _ rfl; (with_reducible repeat (first | refine blk_drewN ?_ _ | refine blk_drew ?_ | refine blk_alloc ?_ _)); refine blk_put (cs := #[.int .i64 0, .int .i64 0, .int .i64 0, .int .i64 0, .int .i64 0, .int .i64 0]) ?_ 0 _ rfl; (with_reducible repeat (first | refine blk_drewN ?_ _ | refine blk_drew ?_ | refine blk_alloc ?_ _)); exact BK123.out) hb); have n1_ := Aside0.mk (below_step (by repeat (first | (with_reducible first | exact HB.out | apply bA_ | apply bN_ | apply b1_ | refine below_set ?_ GE123.out) | exact HB.out)) hb); clear BK123; clear HB; have BK123 := n0_; have HB := n1_; clear n0_ n1_; (try clear hb); (try clear hb2); (try clear hk); (try clear hi); obtain ⟨hcz20_0, hcz20_1, hcz20_2, hcz20_3, hcz20_4, hcz20_5, hfz20_0, hfz20_1, hfz20_2, hfz20_3, hfz20_4, hfz20_5⟩ := blk6_ BK123.out) | (go_at_call 67; (with_reducible refine (spec_l1In.calls ((rd_T45 l0 a1).f2) (-500) 500 t127 _ A17.out).mono ?_); rintro e w' ⟨rfl, ⟨nd, rfl⟩⟩))
   go_meet
   case rel => exact ⟨_, (!t127), (by first | rfl | (simp; done) | (simp [*]; done)), H', ⟨by first | omega | exact Nat.le_refl _⟩, ⟨by (with_reducible repeat (first | refine blk_drewN ?_ _ | refine blk_drew ?_ | refine blk_alloc ?_ _)); exact BK123.out⟩, ⟨by repeat (first | (with_reducible first | exact HB.out | apply bA_ | apply bN_ | apply b1_ | refine below_set ?_ GE123.out) | exact HB.out)⟩⟩
  rw [if_pos c13] at H
  have c13b0 : decide (0 < ((rd_T45 l0 ((rd_T45 l0 a1).f0)).f3)) = true := decide_eq_true c13
  clear c13
  have H' := Aside0.mk H
  clear H
  obtain ⟨hcz14_0, hcz14_1, hcz14_2, hcz14_3, hcz14_4, hcz14_5, hfz14_0, hfz14_1, hfz14_2, hfz14_3, hfz14_4, hfz14_5⟩ := blk6_ BK123.out
  go_wp2_with (first | ((with_reducible refine gate_callee (f := 67) rfl ?_); refine goesL_ (some 16) rfl rfl Try.func67 (by kernel_rfl) rfl #[.int .i64 ((rd_T45 l0 a1).f0), .int .i64 (-1), .int .i64 (wrap64 (a1 - 1))] rfl (by (try simp only [List.map_toArray, List.map_cons, List.map_nil]); first | done | rfl) ?_; (with_reducible refine (spec_l1In.calls ((rd_T45 l0 a1).f0) (-1) (wrap64 (a1 - 1)) true _ A8.out).mono ?_); rintro e w' ⟨rfl, ⟨nd, rfl⟩⟩; refine ⟨_, rfl, ?_⟩; have p125 : 0 ≤ (((rd_T45 l0 a1).f0) : Int) := of_decide_eq_true (by first|with_reducible assumption|assumption); have q125 : ((rd_T45 l0 a1).f0) < (l0.length : Int) := of_decide_eq_true (by first|with_reducible assumption|assumption); obtain ⟨ad125, e125, hx125_0, hx125_1, hx125_2, hx125_3, hx125_4, hx125_5⟩ := at_T45 HR0.out ((rd_T45 l0 a1).f0) p125 q125; obtain rfl : ad122 = ad125 := (by injection e125); have hn125_0 : ad122.block ≠ gb123 := Nat.ne_of_lt (Nat.lt_of_lt_of_le (by have := World.block_lt_of_cell? _ _ hx125_0; first | rwa [add_block] at this | exact this) GW123.out); have hn125_1 : ad122.block ≠ gb123 := Nat.ne_of_lt (Nat.lt_of_lt_of_le (by have := World.block_lt_of_cell? _ _ hx125_0; first | rwa [add_block] at this | exact this) GW123.out); have hn125_2 : ad122.block ≠ gb123 := Nat.ne_of_lt (Nat.lt_of_lt_of_le (by have := World.block_lt_of_cell? _ _ hx125_0; first | rwa [add_block] at this | exact this) GW123.out); have hn125_3 : ad122.block ≠ gb123 := Nat.ne_of_lt (Nat.lt_of_lt_of_le (by have := World.block_lt_of_cell? _ _ hx125_0; first | rwa [add_block] at this | exact this) GW123.out); have hn125_4 : ad122.block ≠ gb123 := Nat.ne_of_lt (Nat.lt_of_lt_of_le (by have := World.block_lt_of_cell? _ _ hx125_0; first | rwa [add_block] at this | exact this) GW123.out); have hn125_5 : ad122.block ≠ gb123 := Nat.ne_of_lt (Nat.lt_of_lt_of_le (by have := World.block_lt_of_cell? _ _ hx125_0; first | rwa [add_block] at this | exact this) GW123.out); replace hx125_0 := cl_ HB.out hx125_0; replace hx125_1 := cl_ HB.out hx125_1; replace hx125_2 := cl_ HB.out hx125_2; replace hx125_3 := cl_ HB.out hx125_3; replace hx125_4 := cl_ HB.out hx125_4; replace hx125_5 := cl_ HB.out hx125_5; replace hx125_0 := (cell_far (p := ⟨gb123, 0, none⟩) (by first | exact ab_ hn125_0 | exact hn125_0) (.int .i64 ((rd_T45 l0 a1).f0))).trans hx125_0; replace hx125_1 := (cell_far (p := ⟨gb123, 0, none⟩) (by first | exact ab_ hn125_0 | exact hn125_0) (.int .i64 ((rd_T45 l0 a1).f0))).trans hx125_1; replace hx125_2 := (cell_far (p := ⟨gb123, 0, none⟩) (by first | exact ab_ hn125_0 | exact hn125_0) (.int .i64 ((rd_T45 l0 a1).f0))).trans hx125_2; replace hx125_3 := (cell_far (p := ⟨gb123, 0, none⟩) (by first | exact ab_ hn125_0 | exact hn125_0) (.int .i64 ((rd_T45 l0 a1).f0))).trans hx125_3; replace hx125_4 := (cell_far (p := ⟨gb123, 0, none⟩) (by first | exact ab_ hn125_0 | exact hn125_0) (.int .i64 ((rd_T45 l0 a1).f0))).trans hx125_4; replace hx125_5 := (cell_far (p := ⟨gb123, 0, none⟩) (by first | exact ab_ hn125_0 | exact hn125_0) (.int .i64 ((rd_T45 l0 a1).f0))).trans hx125_5; replace hx125_0 := (cell_far (p := ⟨gb123, 1, none⟩) (by first | exact ab_ hn125_1 | exact hn125_1) (.int .i64 ((rd_T45 l0 a1).f1.f0))).trans hx125_0; replace hx125_1 := (cell_far (p := ⟨gb123, 1, none⟩) (by first | exact ab_ hn125_1 | exact hn125_1) (.int .i64 ((rd_T45 l0 a1).f1.f0))).trans hx125_1; replace hx125_2 := (cell_far (p := ⟨gb123, 1, none⟩) (by first | exact ab_ hn125_1 | exact hn125_1) (.int .i64 ((rd_T45 l0 a1).f1.f0))).trans hx125_2; replace hx125_3 := (cell_far (p := ⟨gb123, 1, none⟩) (by first | exact ab_ hn125_1 | exact hn125_1) (.int .i64 ((rd_T45 l0 a1).f1.f0))).trans hx125_3; replace hx125_4 := (cell_far (p := ⟨gb123, 1, none⟩) (by first | exact ab_ hn125_1 | exact hn125_1) (.int .i64 ((rd_T45 l0 a1).f1.f0))).trans hx125_4; replace hx125_5 := (cell_far (p := ⟨gb123, 1, none⟩) (by first | exact ab_ hn125_1 | exact hn125_1) (.int .i64 ((rd_T45 l0 a1).f1.f0))).trans hx125_5; replace hx125_0 := (cell_far (p := ⟨gb123, 2, none⟩) (by first | exact ab_ hn125_2 | exact hn125_2) (.int .i64 ((rd_T45 l0 a1).f1.f1))).trans hx125_0; replace hx125_1 := (cell_far (p := ⟨gb123, 2, none⟩) (by first | exact ab_ hn125_2 | exact hn125_2) (.int .i64 ((rd_T45 l0 a1).f1.f1))).trans hx125_1; replace hx125_2 := (cell_far (p := ⟨gb123, 2, none⟩) (by first | exact ab_ hn125_2 | exact hn125_2) (.int .i64 ((rd_T45 l0 a1).f1.f1))).trans hx125_2; replace hx125_3 := (cell_far (p := ⟨gb123, 2, none⟩) (by first | exact ab_ hn125_2 | exact hn125_2) (.int .i64 ((rd_T45 l0 a1).f1.f1))).trans hx125_3; replace hx125_4 := (cell_far (p := ⟨gb123, 2, none⟩) (by first | exact ab_ hn125_2 | exact hn125_2) (.int .i64 ((rd_T45 l0 a1).f1.f1))).trans hx125_4; replace hx125_5 := (cell_far (p := ⟨gb123, 2, none⟩) (by first | exact ab_ hn125_2 | exact hn125_2) (.int .i64 ((rd_T45 l0 a1).f1.f1))).trans hx125_5; replace hx125_0 := (cell_far (p := ⟨gb123, 3, none⟩) (by first | exact ab_ hn125_3 | exact hn125_3) (.int .i64 ((rd_T45 l0 a1).f2))).trans hx125_0; replace hx125_1 := (cell_far (p := ⟨gb123, 3, none⟩) (by first | exact ab_ hn125_3 | exact hn125_3) (.int .i64 ((rd_T45 l0 a1).f2))).trans hx125_1; replace hx125_2 := (cell_far (p := ⟨gb123, 3, none⟩) (by first | exact ab_ hn125_3 | exact hn125_3) (.int .i64 ((rd_T45 l0 a1).f2))).trans hx125_2; replace hx125_3 := (cell_far (p := ⟨gb123, 3, none⟩) (by first | exact ab_ hn125_3 | exact hn125_3) (.int .i64 ((rd_T45 l0 a1).f2))).trans hx125_3; replace hx125_4 := (cell_far (p := ⟨gb123, 3, none⟩) (by first | exact ab_ hn125_3 | exact hn125_3) (.int .i64 ((rd_T45 l0 a1).f2))).trans hx125_4; replace hx125_5 := (cell_far (p := ⟨gb123, 3, none⟩) (by first | exact ab_ hn125_3 | exact hn125_3) (.int .i64 ((rd_T45 l0 a1).f2))).trans hx125_5; replace hx125_0 := (cell_far (p := ⟨gb123, 4, none⟩) (by first | exact ab_ hn125_4 | exact hn125_4) (.int .i64 ((rd_T45 l0 a1).f3))).trans hx125_0; replace hx125_1 := (cell_far (p := ⟨gb123, 4, none⟩) (by first | exact ab_ hn125_4 | exact hn125_4) (.int .i64 ((rd_T45 l0 a1).f3))).trans hx125_1; replace hx125_2 := (cell_far (p := ⟨gb123, 4, none⟩) (by first | exact ab_ hn125_4 | exact hn125_4) (.int .i64 ((rd_T45 l0 a1).f3))).trans hx125_2; replace hx125_3 := (cell_far (p := ⟨gb123, 4, none⟩) (by first | exact ab_ hn125_4 | exact hn125_4) (.int .i64 ((rd_T45 l0 a1).f3))).trans hx125_3; replace hx125_4 := (cell_far (p := ⟨gb123, 4, none⟩) (by first | exact ab_ hn125_4 | exact hn125_4) (.int .i64 ((rd_T45 l0 a1).f3))).trans hx125_4; replace hx125_5 := (cell_far (p := ⟨gb123, 4, none⟩) (by first | exact ab_ hn125_4 | exact hn125_4) (.int .i64 ((rd_T45 l0 a1).f3))).trans hx125_5; replace hx125_0 := (cell_far (p := ⟨gb123, 5, none⟩) (by first | exact ab_ hn125_5 | exact hn125_5) (.int .i64 ((rd_T45 l0 a1).f4))).trans hx125_0; replace hx125_1 := (cell_far (p := ⟨gb123, 5, none⟩) (by first | exact ab_ hn125_5 | exact hn125_5) (.int .i64 ((rd_T45 l0 a1).f4))).trans hx125_1; replace hx125_2 := (cell_far (p := ⟨gb123, 5, none⟩) (by first | exact ab_ hn125_5 | exact hn125_5) (.int .i64 ((rd_T45 l0 a1).f4))).trans hx125_2; replace hx125_3 := (cell_far (p := ⟨gb123, 5, none⟩) (by first | exact ab_ hn125_5 | exact hn125_5) (.int .i64 ((rd_T45 l0 a1).f4))).trans hx125_3; replace hx125_4 := (cell_far (p := ⟨gb123, 5, none⟩) (by first | exact ab_ hn125_5 | exact hn125_5) (.int .i64 ((rd_T45 l0 a1).f4))).trans hx125_4; replace hx125_5 := (cell_far (p := ⟨gb123, 5, none⟩) (by first | exact ab_ hn125_5 | exact hn125_5) (.int .i64 ((rd_T45 l0 a1).f4))).trans hx125_5; clear hn125_0; clear hn125_1; clear hn125_2; clear hn125_3; clear hn125_4; clear hn125_5; replace p125 := eq_true p125; replace q125 := eq_true q125))
  go_meet
  case rel => exact ⟨_, (true), (by first | rfl | (simp; done) | (simp [*]; done)), H', ⟨by first | omega | exact Nat.le_refl _⟩, ⟨by (with_reducible repeat (first | refine blk_drewN ?_ _ | refine blk_drew ?_ | refine blk_alloc ?_ _)); refine blk_put (cs := #[.int .i64 ((rd_T45 l0 a1).f0), .int .i64 ((rd_T45 l0 a1).f1.f0), .int .i64 ((rd_T45 l0 a1).f1.f1), .int .i64 ((rd_T45 l0 a1).f2), .int .i64 ((rd_T45 l0 a1).f3), .int .i64 0]) ?_ 5 _ rfl; (with_reducible repeat (first | refine blk_drewN ?_ _ | refine blk_drew ?_ | refine blk_alloc ?_ _)); refine blk_put (cs := #[.int .i64 ((rd_T45 l0 a1).f0), .int .i64 ((rd_T45 l0 a1).f1.f0), .int .i64 ((rd_T45 l0 a1).f1.f1), .int .i64 ((rd_T45 l0 a1).f2), .int .i64 0, .int .i64 0]) ?_ 4 _ rfl; (with_reducible repeat (first | refine blk_drewN ?_ _ | refine blk_drew ?_ | refine blk_alloc ?_ _)); refine blk_put (cs := #[.int .i64 ((rd_T45 l0 a1).f0), .int .i64 ((rd_T45 l0 a1).f1.f0), .int .i64 ((rd_T45 l0 a1).f1.f1), .int .i64 0, .int .i64 0, .int .i64 0]) ?_ 3 _ rfl; (with_reducible repeat (first | refine blk_drewN ?_ _ | refine blk_drew ?_ | refine blk_alloc ?_ _)); refine blk_put (cs := #[.int .i64 ((rd_T45 l0 a1).f0), .int .i64 ((rd_T45 l0 a1).f1.f0), .int .i64 0, .int .i64 0, .int .i64 0, .int .i64 0]) ?_ 2 _ rfl; (with_reducible repeat (first | refine blk_drewN ?_ _ | refine blk_drew ?_ | refine blk_alloc ?_ _)); refine blk_put (cs := #[.int .i64 ((rd_T45 l0 a1).f0), .int .i64 0, .int .i64 0, .int .i64 0, .int .i64 0, .int .i64 0]) ?_ 1 _ rfl; (with_reducible repeat (first | refine blk_drewN ?_ _ | refine blk_drew ?_ | refine blk_alloc ?_ _)); refine blk_put (cs := #[.int .i64 0, .int .i64 0, .int .i64 0, .int .i64 0, .int .i64 0, .int .i64 0]) ?_ 0 _ rfl; (with_reducible repeat (first | refine blk_drewN ?_ _ | refine blk_drew ?_ | refine blk_alloc ?_ _)); exact BK123.out⟩, ⟨by repeat (first | (with_reducible first | exact HB.out | apply bA_ | apply bN_ | apply b1_ | refine below_set ?_ GE123.out) | exact HB.out)⟩⟩
 case rest =>
  clear HC5
  try clear c1
  try clear p1
  try clear q1
  try clear hx1
  try clear c2
  try clear p2
  try clear c3
  try clear c3b0
  try clear c4
  try clear c4b0
  try clear c6
  try clear p6
  try clear c7
  try clear c9
  try clear c10
  try clear c10b0
  try clear c11
  try clear c11b0
  try clear c12
  try clear c12b0
  try clear p12
  try clear q12
  try clear hx12
  try clear c13
  try clear c13b0
  try clear c16
  try clear c24
  try clear hcz14_0
  try clear hcz14_1
  try clear hcz14_2
  try clear hcz14_3
  try clear hcz14_4
  try clear hcz14_5
  try clear hcz18_0
  try clear hcz18_1
  try clear hcz18_2
  try clear hcz18_3
  try clear hcz18_4
  try clear hcz18_5
  try clear hcz20_0
  try clear hcz20_1
  try clear hcz20_2
  try clear hcz20_3
  try clear hcz20_4
  try clear hcz20_5
  try clear hcz21_0
  try clear hcz21_1
  try clear hcz21_2
  try clear hcz21_3
  try clear hcz21_4
  try clear hcz21_5
  try clear hcz26_0
  try clear hcz26_1
  try clear hcz26_2
  try clear hcz26_3
  try clear hcz26_4
  try clear hcz26_5
  try clear hcz28_0
  try clear hcz28_1
  try clear hcz28_2
  try clear hcz28_3
  try clear hcz28_4
  try clear hcz28_5
  try clear hcz29_0
  try clear hcz29_1
  try clear hcz29_2
  try clear hcz29_3
  try clear hcz29_4
  try clear hcz29_5
  try clear hcz31_0
  try clear hcz31_1
  try clear hcz31_2
  try clear hcz31_3
  try clear hcz31_4
  try clear hcz31_5
  try clear hcz7_0
  try clear hcz7_1
  try clear hcz7_2
  try clear hcz7_3
  try clear hcz7_4
  try clear hcz7_5
  try clear hfz14_0
  try clear hfz14_1
  try clear hfz14_2
  try clear hfz14_3
  try clear hfz14_4
  try clear hfz14_5
  try clear hfz18_0
  try clear hfz18_1
  try clear hfz18_2
  try clear hfz18_3
  try clear hfz18_4
  try clear hfz18_5
  try clear hfz20_0
  try clear hfz20_1
  try clear hfz20_2
  try clear hfz20_3
  try clear hfz20_4
  try clear hfz20_5
  try clear hfz21_0
  try clear hfz21_1
  try clear hfz21_2
  try clear hfz21_3
  try clear hfz21_4
  try clear hfz21_5
  try clear hfz26_0
  try clear hfz26_1
  try clear hfz26_2
  try clear hfz26_3
  try clear hfz26_4
  try clear hfz26_5
  try clear hfz28_0
  try clear hfz28_1
  try clear hfz28_2
  try clear hfz28_3
  try clear hfz28_4
  try clear hfz28_5
  try clear hfz29_0
  try clear hfz29_1
  try clear hfz29_2
  try clear hfz29_3
  try clear hfz29_4
  try clear hfz29_5
  try clear hfz31_0
  try clear hfz31_1
  try clear hfz31_2
  try clear hfz31_3
  try clear hfz31_4
  try clear hfz31_5
  try clear hfz7_0
  try clear hfz7_1
  try clear hfz7_2
  try clear hfz7_3
  try clear hfz7_4
  try clear hfz7_5
  try clear hx122_0
  try clear hx122_1
  try clear hx122_2
  try clear hx122_3
  try clear hx122_4
  try clear hx122_5
  try clear hx125_0
  try clear hx125_1
  try clear hx125_2
  try clear hx125_3
  try clear hx125_4
  try clear hx125_5
  try clear p122
  try clear p125
  try clear q122
  try clear q125
  obtain ⟨kq, x43_4, rfl, HA, HJ4, BK123, HB⟩ := hcut
  cases kq with
  | zero => exact absurd HA.out (by simp [spec_liPart.j0])
  | succ kj4 =>
   have H := HA.out
   clear HA
   simp only [spec_liPart.j0] at H
   by_cases c32 : x43_4 = true
   case neg =>
    replace c32 := Bool.eq_false_iff.mpr c32
    subst c32
    have H1 : (if ((rd_T45 l0 a1).f3) = 0 then (some (((rd_T45 l0 a1).f4) == 0)) else ((spec_hoNozzle.f ((rd_T45 l0 a1).f3)).bind fun t130 => (if t130 = true then ((spec_l1In.f ((rd_T45 l0 a1).f4) 1 3000).bind fun t131 => (if t131 = true then ((spec_hoNeeds.f kj4 ((rd_T45 l0 a1).f3) ((rd_T45 l0 a1).f4)).bind fun bt132 => (some bt132.2)) else (some false))) else (some false)))) = some r := by rw [if_neg (show ¬ (false = true) by decide)] at H; exact H
    clear H
    have H := H1
    clear H1
    by_cases c33 : ((rd_T45 l0 a1).f3) = 0
    case neg =>
     rw [if_neg c33] at H
     have c33b0 : (((rd_T45 l0 a1).f3) == 0) = false := beq_eq_false_iff_ne.mpr c33
     have c33b1 : (((rd_T45 l0 a1).f3) != 0) = true := bne_iff_ne.mpr c33
     replace H := Option.bind_eq_some_iff.mp H
     obtain ⟨t130, A350, H⟩ := H
     replace H : (if t130 = true then ((spec_l1In.f ((rd_T45 l0 a1).f4) 1 3000).bind fun t131 => (if t131 = true then ((spec_hoNeeds.f kj4 ((rd_T45 l0 a1).f3) ((rd_T45 l0 a1).f4)).bind fun bt132 => (some bt132.2)) else (some false))) else (some false)) = some r := H
     have A35 := Aside0.mk A350
     clear A350
     by_cases c36 : t130 = true
     case neg =>
      replace c36 := Bool.eq_false_iff.mpr c36
      subst c36
      have H1 : (some false) = some r := by rw [if_neg (show ¬ (false = true) by decide)] at H; exact H
      clear H
      have H := H1
      clear H1
      obtain rfl := Option.some.inj H
      obtain ⟨hcz42_0, hcz42_1, hcz42_2, hcz42_3, hcz42_4, hcz42_5, hfz42_0, hfz42_1, hfz42_2, hfz42_3, hfz42_4, hfz42_5⟩ := blk6_ BK123.out
      go_wp2_with (first | ((with_reducible refine gate_callee (f := 84) rfl ?_); refine goesL_ (some 52) rfl rfl Try.func84 (by kernel_rfl) rfl #[.int .i64 ((rd_T45 l0 a1).f3)] rfl (by (try simp only [List.map_toArray, List.map_cons, List.map_nil]); first | done | rfl) ?_; (with_reducible refine (spec_hoNozzle.calls ((rd_T45 l0 a1).f3) false _ A35.out).mono ?_); rintro e w' ⟨rfl, ⟨nd, rfl⟩⟩; refine ⟨_, rfl, ?_⟩))
      go_ret
      exact ⟨by first | rfl | (simp [errW_none, errW_some] <;> rfl) | (simp [*, errW_none, errW_some] <;> rfl), by repeat (first | (with_reducible first | exact HB.out | apply bA_ | apply bN_ | apply b1_ | refine below_set ?_ GE123.out) | exact HB.out)⟩
     subst c36
     have H1 : ((spec_l1In.f ((rd_T45 l0 a1).f4) 1 3000).bind fun t131 => (if t131 = true then ((spec_hoNeeds.f kj4 ((rd_T45 l0 a1).f3) ((rd_T45 l0 a1).f4)).bind fun bt132 => (some bt132.2)) else (some false))) = some r := by rw [if_pos rfl] at H; exact H
     clear H
     have H := H1
     clear H1
     replace H := Option.bind_eq_some_iff.mp H
     obtain ⟨t131, A370, H⟩ := H
     replace H : (if t131 = true then ((spec_hoNeeds.f kj4 ((rd_T45 l0 a1).f3) ((rd_T45 l0 a1).f4)).bind fun bt132 => (some bt132.2)) else (some false)) = some r := H
     have A37 := Aside0.mk A370
     clear A370
     by_cases c38 : t131 = true
     case neg =>
      replace c38 := Bool.eq_false_iff.mpr c38
      subst c38
      have H1 : (some false) = some r := by rw [if_neg (show ¬ (false = true) by decide)] at H; exact H
      clear H
      have H := H1
      clear H1
      obtain rfl := Option.some.inj H
      obtain ⟨hcz41_0, hcz41_1, hcz41_2, hcz41_3, hcz41_4, hcz41_5, hfz41_0, hfz41_1, hfz41_2, hfz41_3, hfz41_4, hfz41_5⟩ := blk6_ BK123.out
      go_wp2_with (first | ((with_reducible refine gate_callee (f := 84) rfl ?_); refine goesL_ (some 52) rfl rfl Try.func84 (by kernel_rfl) rfl #[.int .i64 ((rd_T45 l0 a1).f3)] rfl (by (try simp only [List.map_toArray, List.map_cons, List.map_nil]); first | done | rfl) ?_; (with_reducible refine (spec_hoNozzle.calls ((rd_T45 l0 a1).f3) true _ A35.out).mono ?_); rintro e w' ⟨rfl, ⟨nd, rfl⟩⟩; refine ⟨_, rfl, ?_⟩) | (go_at_call 67; (with_reducible refine (spec_l1In.calls ((rd_T45 l0 a1).f4) 1 3000 false _ A37.out).mono ?_); rintro e w' ⟨rfl, ⟨nd, rfl⟩⟩))
      go_ret
      exact ⟨by first | rfl | (simp [errW_none, errW_some] <;> rfl) | (simp [*, errW_none, errW_some] <;> rfl), by repeat (first | (with_reducible first | exact HB.out | apply bA_ | apply bN_ | apply b1_ | refine below_set ?_ GE123.out) | exact HB.out)⟩
     subst c38
     have H1 : ((spec_hoNeeds.f kj4 ((rd_T45 l0 a1).f3) ((rd_T45 l0 a1).f4)).bind fun bt132 => (some bt132.2)) = some r := by rw [if_pos rfl] at H; exact H
     clear H
     have H := H1
     clear H1
     replace H := Option.bind_eq_some_iff.mp H
     obtain ⟨⟨t132, t133⟩, A390, H⟩ := H
     replace H : (some t133) = some r := H
     have A39 := Aside0.mk A390
     clear A390
     obtain rfl := Option.some.inj H
     obtain ⟨hcz40_0, hcz40_1, hcz40_2, hcz40_3, hcz40_4, hcz40_5, hfz40_0, hfz40_1, hfz40_2, hfz40_3, hfz40_4, hfz40_5⟩ := blk6_ BK123.out
     go_wp2_with (first | ((with_reducible refine gate_callee (f := 84) rfl ?_); refine goesL_ (some 52) rfl rfl Try.func84 (by kernel_rfl) rfl #[.int .i64 ((rd_T45 l0 a1).f3)] rfl (by (try simp only [List.map_toArray, List.map_cons, List.map_nil]); first | done | rfl) ?_; (with_reducible refine (spec_hoNozzle.calls ((rd_T45 l0 a1).f3) true _ A35.out).mono ?_); rintro e w' ⟨rfl, ⟨nd, rfl⟩⟩; refine ⟨_, rfl, ?_⟩) | (go_at_call 67; (with_reducible refine (spec_l1In.calls ((rd_T45 l0 a1).f4) 1 3000 true _ A37.out).mono ?_); rintro e w' ⟨rfl, ⟨nd, rfl⟩⟩) | ((with_reducible refine gate_callee (f := 80) rfl ?_); refine goesL_ (some 65) rfl rfl Try.func80 (by kernel_rfl) rfl #[.int .i64 ((rd_T45 l0 a1).f3), .int .i64 ((rd_T45 l0 a1).f4)] rfl (by (try simp only [List.map_toArray, List.map_cons, List.map_nil]); first | done | rfl) ?_; (with_reducible refine (spec_hoNeeds.calls kj4 ((rd_T45 l0 a1).f3) ((rd_T45 l0 a1).f4) t132 t133 _ A39.out).mono ?_); rintro e w' ⟨rfl, ⟨nd, rfl⟩⟩; refine ⟨_, rfl, ?_⟩))
     go_ret
     exact ⟨by first | rfl | (simp [errW_none, errW_some] <;> rfl) | (simp [*, errW_none, errW_some] <;> rfl), by repeat (first | (with_reducible first | exact HB.out | apply bA_ | apply bN_ | apply b1_ | refine below_set ?_ GE123.out) | exact HB.out)⟩
    rw [if_pos c33] at H
    have c33b0 : (((rd_T45 l0 a1).f3) == 0) = true := beq_iff_eq.mpr c33
    have c33b1 : (((rd_T45 l0 a1).f3) != 0) = false := bne_eq_false_iff_eq.mpr c33
    clear c33
    obtain rfl := Option.some.inj H
    obtain ⟨hcz34_0, hcz34_1, hcz34_2, hcz34_3, hcz34_4, hcz34_5, hfz34_0, hfz34_1, hfz34_2, hfz34_3, hfz34_4, hfz34_5⟩ := blk6_ BK123.out
    go_wp2
    go_ret
    exact ⟨by first | rfl | (simp [errW_none, errW_some] <;> rfl) | (simp [*, errW_none, errW_some] <;> rfl), by repeat (first | (with_reducible first | exact HB.out | apply bA_ | apply bN_ | apply b1_ | refine below_set ?_ GE123.out) | exact HB.out)⟩
   subst c32
   have H1 : (some false) = some r := by rw [if_pos rfl] at H; exact H
   clear H
   have H := H1
   clear H1
   obtain rfl := Option.some.inj H
   go_wp2
   go_ret
   exact ⟨by first | rfl | (simp [errW_none, errW_some] <;> rfl) | (simp [*, errW_none, errW_some] <;> rfl), by repeat (first | (with_reducible first | exact HB.out | apply bA_ | apply bN_ | apply b1_ | refine below_set ?_ GE123.out) | exact HB.out)⟩

/-! ### spec_liGood: function 51 -/
mutual
def spec_liGood.l0 : Nat → List (S45) → Int → Int → Option (Bool)
  | 0, _, _, _ => none
  | k + 1, x0, x11, x12 => if x12 < x11 then ((spec_liPart.f k x0 x12).bind fun t135 => (if t135 = true then (spec_liGood.l0 k x0 x11 (wrap64 (x12 + 1))) else (some false))) else ((spec_liFlows.f k x0).bind fun t136 => (spec_liGood.l1 k x0 t136 (t136.length : Int) 0))
def spec_liGood.l1 : Nat → List (S45) → List Int → Int → Int → Option (Bool)
  | 0, _, _, _, _ => none
  | k + 1, x0, x21, x22, x23 => if x23 < x22 then (if 0 ≤ x23 then (if x23 < (x21.length : Int) then ((spec_l1In.f (rd x21 x23) 1 3000).bind fun t140 => (if t140 = true then (spec_liGood.l1 k x0 x21 x22 (wrap64 (x23 + 1))) else (some false))) else (none)) else (none)) else ((spec_liWater.f k x0).bind fun t141 => (some (decide (t141 ≤ 3000))))
end
def spec_liGood.f (k : Nat) (l0 : List (S45)) : Option (Bool) := (spec_l1In.f (l0.length : Int) 1 12).bind fun t134 => (if t134 = true then (spec_liGood.l0 k l0 (l0.length : Int) 0) else (some false))
theorem spec_liGood.mono_l : ∀ k, (∀ y0 y1 y2, LeO (spec_liGood.l0 k y0 y1 y2) (spec_liGood.l0 (k + 1) y0 y1 y2)) ∧ (∀ y0 y1 y2 y3, LeO (spec_liGood.l1 k y0 y1 y2 y3) (spec_liGood.l1 (k + 1) y0 y1 y2 y3))
 | 0 => ⟨fun _ _ _ r h => by simp [spec_liGood.l0] at h, fun _ _ _ _ r h => by simp [spec_liGood.l1] at h⟩
 | k + 1 => by
  obtain ⟨ih0, ih1⟩ := spec_liGood.mono_l k
  refine ⟨?_, ?_⟩
  · intro y0 y1 y2
    unfold spec_liGood.l0
    repeat' first
    | (with_reducible exact ih0 _ _ _)
    | (with_reducible exact ih1 _ _ _ _)
    | (with_reducible exact spec_liFlows.mono _ _)
    | (with_reducible exact spec_liPart.mono _ _ _)
    | (with_reducible exact spec_liWater.mono _ _)
    | (with_reducible exact LeO.refl _)
    | (with_reducible exact LeO.none _)
    | (with_reducible refine LeO.ite ?_ ?_)
    | (with_reducible refine LeO.bind ?_ (fun _ => ?_))
    | exact ih0 _ _ _
    | exact ih1 _ _ _ _
    | exact spec_liFlows.mono _ _
    | exact spec_liPart.mono _ _ _
    | exact spec_liWater.mono _ _
    | exact LeO.none _
    | refine LeO.ite ?_ ?_
    | refine LeO.bind ?_ (fun _ => ?_)
  · intro y0 y1 y2 y3
    unfold spec_liGood.l1
    repeat' first
    | (with_reducible exact ih0 _ _ _)
    | (with_reducible exact ih1 _ _ _ _)
    | (with_reducible exact spec_liFlows.mono _ _)
    | (with_reducible exact spec_liPart.mono _ _ _)
    | (with_reducible exact spec_liWater.mono _ _)
    | (with_reducible exact LeO.refl _)
    | (with_reducible exact LeO.none _)
    | (with_reducible refine LeO.ite ?_ ?_)
    | (with_reducible refine LeO.bind ?_ (fun _ => ?_))
    | exact ih0 _ _ _
    | exact ih1 _ _ _ _
    | exact spec_liFlows.mono _ _
    | exact spec_liPart.mono _ _ _
    | exact spec_liWater.mono _ _
    | exact LeO.none _
    | refine LeO.ite ?_ ?_
    | refine LeO.bind ?_ (fun _ => ?_)
theorem spec_liGood.mono : ∀ a0 k, LeO (spec_liGood.f k a0) (spec_liGood.f (k + 1) a0) := by
 intro a0 k
 obtain ⟨ih0, ih1⟩ := spec_liGood.mono_l k
 unfold spec_liGood.f
 repeat' first
  | (with_reducible exact ih0 _ _ _)
  | (with_reducible exact ih1 _ _ _ _)
  | (with_reducible exact spec_liFlows.mono _ _)
  | (with_reducible exact spec_liPart.mono _ _ _)
  | (with_reducible exact spec_liWater.mono _ _)
  | (with_reducible exact LeO.refl _)
  | (with_reducible exact LeO.none _)
  | (with_reducible refine LeO.ite ?_ ?_)
  | (with_reducible refine LeO.bind ?_ (fun _ => ?_))
  | exact ih0 _ _ _
  | exact ih1 _ _ _ _
  | exact spec_liFlows.mono _ _
  | exact spec_liPart.mono _ _ _
  | exact spec_liWater.mono _ _
  | exact LeO.none _
  | refine LeO.ite ?_ ?_
  | refine LeO.bind ?_ (fun _ => ?_)
set_option maxHeartbeats 8000000 in
set_option maxRecDepth 100000 in
theorem spec_liGood.calls (k : Nat) (A0 : Option Addr) (c0 : Nat) (l0 : List (S45)) (r : Bool) (w : World) (hr0 : Kd.C k45 w A0 l0.length l0) (hc0 : l0.length ≤ c0) (h : spec_liGood.f k l0 = some r) :
  Calls Try.prog 51 #[.slice A0 l0.length c0] w fun e w' => e = .returned (.bool r) ∧ Below w.heap.size w w' := by
 have HR0 := Aside0.mk hr0
 have HC0 := Aside0.mk hc0
 clear hr0 hc0
 have HB := Aside0.mk (Below.refl w.heap.size w)
 have H : ((spec_l1In.f (l0.length : Int) 1 12).bind fun t134 => (if t134 = true then (spec_liGood.l0 k l0 (l0.length : Int) 0) else (some false))) = some r := h
 clear h
 replace H := Option.bind_eq_some_iff.mp H
 obtain ⟨t134, A20, H⟩ := H
 replace H : (if t134 = true then (spec_liGood.l0 k l0 (l0.length : Int) 0) else (some false)) = some r := H
 have A2 := Aside0.mk A20
 clear A20
 by_cases c3 : t134 = true
 case neg =>
  replace c3 := Bool.eq_false_iff.mpr c3
  subst c3
  have H1 : (some false) = some r := by rw [if_neg (show ¬ (false = true) by decide)] at H; exact H
  clear H
  have H := H1
  clear H1
  obtain rfl := Option.some.inj H
  go_enter Try.func51, Try.ntmps51
  go_wp2_with (first | ((with_reducible refine gate_callee (f := 67) rfl ?_); refine goesL_ (some 8) rfl rfl Try.func67 (by kernel_rfl) rfl #[.int .i64 (l0.length : Int), .int .i64 1, .int .i64 12] rfl (by (try simp only [List.map_toArray, List.map_cons, List.map_nil]); first | done | rfl) ?_; (with_reducible refine (spec_l1In.calls (l0.length : Int) 1 12 false _ A2.out).mono ?_); rintro e w' ⟨rfl, ⟨nd, rfl⟩⟩; refine ⟨_, rfl, ?_⟩))
  go_ret
  exact ⟨by first | rfl | (simp [errW_none, errW_some] <;> rfl) | (simp [*, errW_none, errW_some] <;> rfl), by repeat (first | (with_reducible first | exact HB.out | apply bA_ | apply bN_ | apply b1_) | exact HB.out)⟩
 subst c3
 have H1 : (spec_liGood.l0 k l0 (l0.length : Int) 0) = some r := by rw [if_pos rfl] at H; exact H
 clear H
 have H := H1
 clear H1
 have H' := Aside0.mk H
 clear H
 go_enter Try.func51, Try.ntmps51
 go_wp2_with (first | ((with_reducible refine gate_callee (f := 67) rfl ?_); refine goesL_ (some 8) rfl rfl Try.func67 (by kernel_rfl) rfl #[.int .i64 (l0.length : Int), .int .i64 1, .int .i64 12] rfl (by (try simp only [List.map_toArray, List.map_cons, List.map_nil]); first | done | rfl) ?_; (with_reducible refine (spec_l1In.calls (l0.length : Int) 1 12 true _ A2.out).mono ?_); rintro e w' ⟨rfl, ⟨nd, rfl⟩⟩; refine ⟨_, rfl, ?_⟩))
 go_loopg [12] k (fun kq v12 w' => ∃ (x12_1 : Int), v12 = .int .i64 x12_1 ∧ Aside0 (spec_liGood.l0 kq l0 (l0.length : Int) x12_1 = some r) ∧ Aside0 (kq ≤ k) ∧ Aside0 (Below w.heap.size w w'))
 case atStart => exact ⟨(0), (by first | rfl | (simp; done) | (simp [*]; done)), H', ⟨Nat.le_refl _⟩, ⟨by repeat (first | (with_reducible first | exact HB.out | apply bA_ | apply bN_ | apply b1_) | exact HB.out)⟩⟩
 case round =>
  clear H'
  try clear p2
  try clear c3
  obtain ⟨x12_1, rfl, HA, HK1, HB⟩ := hrel
  cases gk with
  | zero => exact absurd HA.out (by simp [spec_liGood.l0])
  | succ k1 =>
   have H := HA.out
   clear HA
   simp only [spec_liGood.l0] at H
   by_cases c4 : x12_1 < (l0.length : Int)
   case neg =>
    rw [if_neg c4] at H
    have c4b0 : decide (x12_1 < (l0.length : Int)) = false := decide_eq_false c4
    clear c4
    replace H := Option.bind_eq_some_iff.mp H
    obtain ⟨t136, A90, H⟩ := H
    replace H : (spec_liGood.l1 k1 l0 t136 (t136.length : Int) 0) = some r := H
    have A9 := Aside0.mk A90
    clear A90
    have H' := Aside0.mk H
    clear H
    go_wp2_with (first | ((with_reducible refine gate_callee (f := 56) rfl ?_); refine goesL_ (some 21) rfl rfl Try.func56 (by kernel_rfl) rfl #[.slice A0 l0.length c0] rfl (by (try simp only [List.map_toArray, List.map_cons, List.map_nil]); first | done | rfl) ?_; (with_reducible refine (spec_liFlows.calls k1 _ _ l0 t136 _ ?side1 ?side2 A9.out).mono ?_); (case side1 => repeat (first | exact (Kd.C_below HR0.out HB.out) | (with_reducible refine Kd.C_alloc ?_ _) | (with_reducible refine Kd.C_drewN ?_ _) | (with_reducible refine Kd.C_drew ?_))); (case side2 => exact HC0.out); rintro e w10 ⟨v137, rfl, ho0, hb⟩; refine ⟨_, rfl, ?_⟩; have n0_ := Aside0.mk (Kd.R_lower ho0 (below_size (by repeat (first | (with_reducible first | exact HB.out | apply bA_ | apply bN_ | apply b1_) | exact HB.out)))); have n1_ := Aside0.mk (below_step (by repeat (first | (with_reducible first | exact HB.out | apply bA_ | apply bN_ | apply b1_) | exact HB.out)) hb); clear HB; have HO138 := n0_; have HB := n1_; clear n0_ n1_; (try clear hb); (try clear hb2); (try clear hk); (try clear hi); (try clear ho0); obtain ⟨Ao11, co11, eo11⟩ := Kd.R_slice HO138.out; subst eo11))
    go_loopg [23] k1 (fun kq v23 w' => ∃ (x23_2 : Int), v23 = .int .i64 x23_2 ∧ Aside0 (spec_liGood.l1 kq l0 t136 (t136.length : Int) x23_2 = some r) ∧ Aside0 (kq ≤ k1) ∧ Aside0 (Kd.R (Kd.int .i64) 3 w' w.heap.size (fun _ => True) (.slice Ao11 t136.length co11) t136) ∧ Aside0 (Below w.heap.size w w'))
    case atStart => exact ⟨(0), (by first | rfl | (simp; done) | (simp [*]; done)), H', ⟨Nat.le_refl _⟩, ⟨by (with_reducible repeat (first | apply Kd.R_alloc | apply Kd.R_drewN | apply Kd.R_drew)); exact HO138.out⟩, ⟨by repeat (first | (with_reducible first | exact HB.out | apply bA_ | apply bN_ | apply b1_) | exact HB.out)⟩⟩
    case round =>
     clear H'
     try clear p2
     try clear c3
     try clear c4
     try clear c4b0
     try clear c5
     try clear c6
     try clear p6
     try clear c7
     try clear p2
     obtain ⟨x23_2, rfl, HA, HK2, HO_21, HB⟩ := hrel
     cases gk with
     | zero => exact absurd HA.out (by simp [spec_liGood.l1])
     | succ k2 =>
      have H := HA.out
      clear HA
      simp only [spec_liGood.l1] at H
      by_cases c12 : x23_2 < (t136.length : Int)
      case neg =>
       rw [if_neg c12] at H
       have c12b0 : decide (x23_2 < (t136.length : Int)) = false := decide_eq_false c12
       clear c12
       replace H := Option.bind_eq_some_iff.mp H
       obtain ⟨t141, A170, H⟩ := H
       replace H : (some (decide (t141 ≤ 3000))) = some r := H
       have A17 := Aside0.mk A170
       clear A170
       obtain rfl := Option.some.inj H
       go_wp2_with (first | ((with_reducible refine gate_callee (f := 54) rfl ?_); refine goesL_ (some 32) rfl rfl Try.func54 (by kernel_rfl) rfl #[.slice A0 l0.length c0] rfl (by (try simp only [List.map_toArray, List.map_cons, List.map_nil]); first | done | rfl) ?_; (with_reducible refine (spec_liWater.calls k2 _ _ l0 t141 _ ?side1 ?side2 A17.out).mono ?_); (case side1 => repeat (first | exact (Kd.C_below HR0.out HB.out) | (with_reducible refine Kd.C_alloc ?_ _) | (with_reducible refine Kd.C_drewN ?_ _) | (with_reducible refine Kd.C_drew ?_))); (case side2 => exact HC0.out); rintro e w18 ⟨rfl, hb⟩; refine ⟨_, rfl, ?_⟩; have n0_ := Aside0.mk (Kd.R_below (by (with_reducible repeat (first | apply Kd.R_alloc | apply Kd.R_drewN | apply Kd.R_drew)); exact HO_21.out) hb); have n1_ := Aside0.mk (below_step (by repeat (first | (with_reducible first | exact HB.out | apply bA_ | apply bN_ | apply b1_) | exact HB.out)) hb); clear HO_21; clear HB; have HO_21 := n0_; have HB := n1_; clear n0_ n1_; (try clear hb); (try clear hb2); (try clear hk); (try clear hi)))
       go_ret
       exact ⟨by first | rfl | (simp [errW_none, errW_some] <;> rfl) | (simp [*, errW_none, errW_some] <;> rfl), by repeat (first | (with_reducible first | exact HB.out | apply bA_ | apply bN_ | apply b1_) | exact HB.out)⟩
      rw [if_pos c12] at H
      have c12b0 : decide (x23_2 < (t136.length : Int)) = true := decide_eq_true c12
      clear c12
      by_cases c13 : 0 ≤ x23_2
      case neg =>
       rw [if_neg c13] at H
       exact absurd H (by simp)
      rw [if_pos c13] at H
      have c13b0 : decide (0 ≤ x23_2) = true := decide_eq_true c13
      clear c13
      by_cases c14 : x23_2 < (t136.length : Int)
      case neg =>
       rw [if_neg c14] at H
       exact absurd H (by simp)
      rw [if_pos c14] at H
      have c14b0 : decide (x23_2 < (t136.length : Int)) = true := decide_eq_true c14
      clear c14
      replace H := Option.bind_eq_some_iff.mp H
      obtain ⟨t140, A150, H⟩ := H
      replace H : (if t140 = true then (spec_liGood.l1 k2 l0 t136 (t136.length : Int) (wrap64 (x23_2 + 1))) else (some false)) = some r := H
      have A15 := Aside0.mk A150
      clear A150
      by_cases c16 : t140 = true
      case neg =>
       replace c16 := Bool.eq_false_iff.mpr c16
       subst c16
       have H1 : (some false) = some r := by rw [if_neg (show ¬ (false = true) by decide)] at H; exact H
       clear H
       have H := H1
       clear H1
       obtain rfl := Option.some.inj H
       have p139 : 0 ≤ (x23_2 : Int) := of_decide_eq_true (by first|with_reducible assumption|assumption)
       have q139 : x23_2 < (t136.length : Int) := of_decide_eq_true (by first|with_reducible assumption|assumption)
       obtain ⟨ad139, e139, hx139_0⟩ := Kd.at_int (Kd.R_reads' HO_21.out).2.2 x23_2 p139 q139
       cases e139
       replace p139 := eq_true p139
       replace q139 := eq_true q139
       go_wp2_with (first | ((with_reducible refine gate_callee (f := 67) rfl ?_); refine goesL_ (some 28) rfl rfl Try.func67 (by kernel_rfl) rfl #[.int .i64 (rd t136 x23_2), .int .i64 1, .int .i64 3000] rfl (by (try simp only [List.map_toArray, List.map_cons, List.map_nil]); first | done | rfl) ?_; (with_reducible refine (spec_l1In.calls (rd t136 x23_2) 1 3000 false _ A15.out).mono ?_); rintro e w' ⟨rfl, ⟨nd, rfl⟩⟩; refine ⟨_, rfl, ?_⟩))
       go_ret
       exact ⟨by first | rfl | (simp [errW_none, errW_some] <;> rfl) | (simp [*, errW_none, errW_some] <;> rfl), by repeat (first | (with_reducible first | exact HB.out | apply bA_ | apply bN_ | apply b1_) | exact HB.out)⟩
      subst c16
      have H1 : (spec_liGood.l1 k2 l0 t136 (t136.length : Int) (wrap64 (x23_2 + 1))) = some r := by rw [if_pos rfl] at H; exact H
      clear H
      have H := H1
      clear H1
      have H' := Aside0.mk H
      clear H
      have p139 : 0 ≤ (x23_2 : Int) := of_decide_eq_true (by first|with_reducible assumption|assumption)
      have q139 : x23_2 < (t136.length : Int) := of_decide_eq_true (by first|with_reducible assumption|assumption)
      obtain ⟨ad139, e139, hx139_0⟩ := Kd.at_int (Kd.R_reads' HO_21.out).2.2 x23_2 p139 q139
      cases e139
      replace p139 := eq_true p139
      replace q139 := eq_true q139
      go_wp2_with (first | ((with_reducible refine gate_callee (f := 67) rfl ?_); refine goesL_ (some 28) rfl rfl Try.func67 (by kernel_rfl) rfl #[.int .i64 (rd t136 x23_2), .int .i64 1, .int .i64 3000] rfl (by (try simp only [List.map_toArray, List.map_cons, List.map_nil]); first | done | rfl) ?_; (with_reducible refine (spec_l1In.calls (rd t136 x23_2) 1 3000 true _ A15.out).mono ?_); rintro e w' ⟨rfl, ⟨nd, rfl⟩⟩; refine ⟨_, rfl, ?_⟩))
      go_roundg k2
      case measure => have := HK1.out; have := HK2.out; omega
      case rel => exact ⟨(wrap64 (x23_2 + 1)), (by first | rfl | (simp; done) | (simp [*]; done)), H', ⟨by have := HK1.out; have := HK2.out; omega⟩, ⟨by (with_reducible repeat (first | apply Kd.R_alloc | apply Kd.R_drewN | apply Kd.R_drew)); exact HO_21.out⟩, ⟨by repeat (first | (with_reducible first | exact HB.out | apply bA_ | apply bN_ | apply b1_) | exact HB.out)⟩⟩
   rw [if_pos c4] at H
   have c4b0 : decide (x12_1 < (l0.length : Int)) = true := decide_eq_true c4
   clear c4
   replace H := Option.bind_eq_some_iff.mp H
   obtain ⟨t135, A50, H⟩ := H
   replace H : (if t135 = true then (spec_liGood.l0 k1 l0 (l0.length : Int) (wrap64 (x12_1 + 1))) else (some false)) = some r := H
   have A5 := Aside0.mk A50
   clear A50
   by_cases c6 : t135 = true
   case neg =>
    replace c6 := Bool.eq_false_iff.mpr c6
    subst c6
    have H1 : (some false) = some r := by rw [if_neg (show ¬ (false = true) by decide)] at H; exact H
    clear H
    have H := H1
    clear H1
    obtain rfl := Option.some.inj H
    go_wp2_with (first | ((with_reducible refine gate_callee (f := 75) rfl ?_); refine goesL_ (some 17) rfl rfl Try.func75 (by kernel_rfl) rfl #[.slice A0 l0.length c0, .int .i64 x12_1] rfl (by (try simp only [List.map_toArray, List.map_cons, List.map_nil]); first | done | rfl) ?_; (with_reducible refine (spec_liPart.calls k1 _ _ l0 x12_1 false _ ?side1 ?side2 A5.out).mono ?_); (case side1 => repeat (first | exact (Kd.C_below HR0.out HB.out) | (with_reducible refine Kd.C_alloc ?_ _) | (with_reducible refine Kd.C_drewN ?_ _) | (with_reducible refine Kd.C_drew ?_))); (case side2 => exact HC0.out); rintro e w8 ⟨rfl, hb⟩; refine ⟨_, rfl, ?_⟩; have n0_ := Aside0.mk (below_step (by repeat (first | (with_reducible first | exact HB.out | apply bA_ | apply bN_ | apply b1_) | exact HB.out)) hb); clear HB; have HB := n0_; clear n0_; (try clear hb); (try clear hb2); (try clear hk); (try clear hi)))
    go_ret
    exact ⟨by first | rfl | (simp [errW_none, errW_some] <;> rfl) | (simp [*, errW_none, errW_some] <;> rfl), by repeat (first | (with_reducible first | exact HB.out | apply bA_ | apply bN_ | apply b1_) | exact HB.out)⟩
   subst c6
   have H1 : (spec_liGood.l0 k1 l0 (l0.length : Int) (wrap64 (x12_1 + 1))) = some r := by rw [if_pos rfl] at H; exact H
   clear H
   have H := H1
   clear H1
   have H' := Aside0.mk H
   clear H
   go_wp2_with (first | ((with_reducible refine gate_callee (f := 75) rfl ?_); refine goesL_ (some 17) rfl rfl Try.func75 (by kernel_rfl) rfl #[.slice A0 l0.length c0, .int .i64 x12_1] rfl (by (try simp only [List.map_toArray, List.map_cons, List.map_nil]); first | done | rfl) ?_; (with_reducible refine (spec_liPart.calls k1 _ _ l0 x12_1 true _ ?side1 ?side2 A5.out).mono ?_); (case side1 => repeat (first | exact (Kd.C_below HR0.out HB.out) | (with_reducible refine Kd.C_alloc ?_ _) | (with_reducible refine Kd.C_drewN ?_ _) | (with_reducible refine Kd.C_drew ?_))); (case side2 => exact HC0.out); rintro e w7 ⟨rfl, hb⟩; refine ⟨_, rfl, ?_⟩; have n0_ := Aside0.mk (below_step (by repeat (first | (with_reducible first | exact HB.out | apply bA_ | apply bN_ | apply b1_) | exact HB.out)) hb); clear HB; have HB := n0_; clear n0_; (try clear hb); (try clear hb2); (try clear hk); (try clear hi)))
   go_roundg k1
   case measure => have := HK1.out; omega
   case rel => exact ⟨(wrap64 (x12_1 + 1)), (by first | rfl | (simp; done) | (simp [*]; done)), H', ⟨by have := HK1.out; omega⟩, ⟨by repeat (first | (with_reducible first | exact HB.out | apply bA_ | apply bN_ | apply b1_) | exact HB.out)⟩⟩

/-! ### laws_toHose: function 58 -/
def laws_toHose.f (a0_0 : Int) (a0_1 : Int) : Option (Int × Int) := some (a0_0, a0_1)
set_option maxHeartbeats 8000000 in
set_option maxRecDepth 100000 in
theorem laws_toHose.calls (a0_0 : Int) (a0_1 : Int) (r1 : Int) (r2 : Int) (w : World) (h : laws_toHose.f a0_0 a0_1 = some (r1, r2)) :
  Calls Try.prog 58 #[.agg #[.int .i64 a0_0, .int .i64 a0_1]] w fun e w' => e = .returned (.agg #[.int .i64 r1, .int .i64 r2]) ∧ Below w.heap.size w w' := by
 have hu38 := Try.underlying38
 have hu43 := Try.underlying43
 have HB := Aside0.mk (Below.refl w.heap.size w)
 have H : (some (a0_0, a0_1)) = some (r1, r2) := h
 clear h
 simp only [Option.some.injEq, Prod.mk.injEq] at H
 obtain ⟨rfl, rfl⟩ := H
 go_enter Try.func58, Try.ntmps58
 go_wp2_with (first | ((with_reducible refine gate_dst (N := 1) rfl ?_); refine box_event ?hg (N := 1) ?hd (cs := #[.int .i64 a0_0, .int .i64 a0_1]) (t := 38) ?hr ?_; (case hd => rfl); (case hg => rfl); (case hr => first | (go_simp; done) | (go_simp; rfl)); intro gb143 hg w2 hbox hb; have n0_ := Aside0.mk (below_step (by repeat (first | (with_reducible first | exact HB.out | apply bA_ | apply bN_ | apply b1_) | exact HB.out)) hb); have n1_ := Aside0.mk (hbox); have n2_ := Aside0.mk ((by rw [hg]; exact (below_size (by repeat (first | (with_reducible first | exact HB.out | apply bA_ | apply bN_ | apply b1_) | exact HB.out))) : w.heap.size ≤ gb143)); have n3_ := n2_; clear HB; have HB := n0_; have BK143 := n1_; have GW143 := n2_; have GE143 := n3_; clear n0_ n1_ n2_ n3_; clear hb hbox hg) | ((with_reducible refine gate_dst (N := 2) rfl ?_); refine box_event ?hg (N := 2) ?hd (cs := #[.int .i64 0, .int .i64 0]) (t := 43) ?hr ?_; (case hd => rfl); (case hg => rfl); (case hr => first | (go_simp; done) | (go_simp; rfl)); intro gb144 hg w3 hbox hb; have n0_ := Aside0.mk (blk_below (g := gb143) (o := .cells #[.int .i64 a0_0, .int .i64 a0_1] 38 (0, 0)) (by (with_reducible repeat (first | refine blk_drewN ?_ _ | refine blk_drew ?_ | refine blk_alloc ?_ _)); exact BK143.out) hb); have n1_ := Aside0.mk (below_step (by repeat (first | (with_reducible first | exact HB.out | apply bA_ | apply bN_ | apply b1_ | refine below_set ?_ GE143.out) | exact HB.out)) hb); have n2_ := Aside0.mk (hbox); have n3_ := Aside0.mk ((by rw [hg]; exact (below_size (by repeat (first | (with_reducible first | exact HB.out | apply bA_ | apply bN_ | apply b1_ | refine below_set ?_ GE143.out) | exact HB.out))) : w.heap.size ≤ gb144)); have n4_ := n3_; have n5_ := Aside0.mk ((by rw [hg]; exact Nat.ne_of_lt (blk_lt (g := gb143) (o := .cells #[.int .i64 a0_0, .int .i64 a0_1] 38 (0, 0)) (by (with_reducible repeat (first | refine blk_drewN ?_ _ | refine blk_drew ?_ | refine blk_alloc ?_ _)); exact BK143.out)) : gb143 ≠ gb144)); have n6_ := Aside0.mk ((by rw [hg]; exact Nat.ne_of_gt (blk_lt (g := gb143) (o := .cells #[.int .i64 a0_0, .int .i64 a0_1] 38 (0, 0)) (by (with_reducible repeat (first | refine blk_drewN ?_ _ | refine blk_drew ?_ | refine blk_alloc ?_ _)); exact BK143.out)) : gb144 ≠ gb143)); clear BK143; clear HB; have BK143 := n0_; have HB := n1_; have BK144 := n2_; have GW144 := n3_; have GE144 := n4_; have NB143_144 := n5_; have NB144_143 := n6_; clear n0_ n1_ n2_ n3_ n4_ n5_ n6_; clear hb hbox hg) | ((with_reducible refine gate_dst (N := 3) rfl ?_); refine box_event ?hg (N := 3) ?hd (cs := #[.int .i64 0, .int .i64 0]) (t := 43) ?hr ?_; (case hd => rfl); (case hg => rfl); (case hr => first | (go_simp; done) | (go_simp; rfl)); intro gb145 hg w4 hbox hb; have n0_ := Aside0.mk (blk_below (g := gb143) (o := .cells #[.int .i64 a0_0, .int .i64 a0_1] 38 (0, 0)) (by (with_reducible repeat (first | refine blk_drewN ?_ _ | refine blk_drew ?_ | refine blk_alloc ?_ _)); exact BK143.out) hb); have n1_ := Aside0.mk (blk_below (g := gb144) (o := .cells #[.int .i64 0, .int .i64 0] 43 (0, 0)) (by (with_reducible repeat (first | refine blk_drewN ?_ _ | refine blk_drew ?_ | refine blk_alloc ?_ _)); exact BK144.out) hb); have n2_ := Aside0.mk (below_step (by repeat (first | (with_reducible first | exact HB.out | apply bA_ | apply bN_ | apply b1_ | refine below_set ?_ GE143.out | refine below_set ?_ GE144.out) | exact HB.out)) hb); have n3_ := Aside0.mk (hbox); have n4_ := Aside0.mk ((by rw [hg]; exact (below_size (by repeat (first | (with_reducible first | exact HB.out | apply bA_ | apply bN_ | apply b1_ | refine below_set ?_ GE143.out | refine below_set ?_ GE144.out) | exact HB.out))) : w.heap.size ≤ gb145)); have n5_ := n4_; have n6_ := Aside0.mk ((by rw [hg]; exact Nat.ne_of_lt (blk_lt (g := gb143) (o := .cells #[.int .i64 a0_0, .int .i64 a0_1] 38 (0, 0)) (by (with_reducible repeat (first | refine blk_drewN ?_ _ | refine blk_drew ?_ | refine blk_alloc ?_ _)); exact BK143.out)) : gb143 ≠ gb145)); have n7_ := Aside0.mk ((by rw [hg]; exact Nat.ne_of_gt (blk_lt (g := gb143) (o := .cells #[.int .i64 a0_0, .int .i64 a0_1] 38 (0, 0)) (by (with_reducible repeat (first | refine blk_drewN ?_ _ | refine blk_drew ?_ | refine blk_alloc ?_ _)); exact BK143.out)) : gb145 ≠ gb143)); have n8_ := Aside0.mk ((by rw [hg]; exact Nat.ne_of_lt (blk_lt (g := gb144) (o := .cells #[.int .i64 0, .int .i64 0] 43 (0, 0)) (by (with_reducible repeat (first | refine blk_drewN ?_ _ | refine blk_drew ?_ | refine blk_alloc ?_ _)); exact BK144.out)) : gb144 ≠ gb145)); have n9_ := Aside0.mk ((by rw [hg]; exact Nat.ne_of_gt (blk_lt (g := gb144) (o := .cells #[.int .i64 0, .int .i64 0] 43 (0, 0)) (by (with_reducible repeat (first | refine blk_drewN ?_ _ | refine blk_drew ?_ | refine blk_alloc ?_ _)); exact BK144.out)) : gb145 ≠ gb144)); clear BK143; clear BK144; clear HB; have BK143 := n0_; have BK144 := n1_; have HB := n2_; have BK145 := n3_; have GW145 := n4_; have GE145 := n5_; have NB143_145 := n6_; have NB145_143 := n7_; have NB144_145 := n8_; have NB145_144 := n9_; clear n0_ n1_ n2_ n3_ n4_ n5_ n6_ n7_ n8_ n9_; clear hb hbox hg; have hnb5 := NB143_144.out; have hnc5 := NB144_143.out; have hnb6 := NB143_145.out; have hnc6 := NB145_143.out; obtain ⟨hcz7_0, hcz7_1, hfz7_0, hfz7_1⟩ := blk2_ BK143.out; have hnb8 := NB145_144.out; have hnc8 := NB144_145.out; obtain ⟨hcz9_0, hcz9_1, hfz9_0, hfz9_1⟩ := blk2_ BK145.out; obtain ⟨hcz10_0, hcz10_1, hfz10_0, hfz10_1⟩ := blk2_ BK144.out))
 refine bodyPost_ret (results_cell_row rfl _ _ gb144 43 #[.int .i64 a0_0, .int .i64 a0_1] (0, 0) _ rfl (by (with_reducible repeat (first | refine blk_drewN ?_ _ | refine blk_drew ?_ | refine blk_alloc ?_ _)); refine blk_put (cs := #[.int .i64 a0_0, .int .i64 0]) ?_ 1 _ rfl; (with_reducible repeat (first | refine blk_drewN ?_ _ | refine blk_drew ?_ | refine blk_alloc ?_ _)); refine blk_put (cs := #[.int .i64 0, .int .i64 0]) ?_ 0 _ rfl; (with_reducible repeat (first | refine blk_drewN ?_ _ | refine blk_drew ?_ | refine blk_alloc ?_ _)); refine blk_far ?_ NB144_145.out _; (with_reducible repeat (first | refine blk_drewN ?_ _ | refine blk_drew ?_ | refine blk_alloc ?_ _)); refine blk_far ?_ NB144_145.out _; (with_reducible repeat (first | refine blk_drewN ?_ _ | refine blk_drew ?_ | refine blk_alloc ?_ _)); exact BK144.out) Try.underlying43 rfl (by kernel_rfl)) rfl ?_
 exact ⟨by first | rfl | (simp [errW_none, errW_some] <;> rfl) | (simp [*, errW_none, errW_some] <;> rfl), by repeat (first | (with_reducible first | exact HB.out | apply bA_ | apply bN_ | apply b1_ | refine below_set ?_ GE143.out | refine below_set ?_ GE144.out | refine below_set ?_ GE145.out) | exact HB.out)⟩

/-! ### laws_toLinePart: function 31 -/
def laws_toLinePart.f (a0_0 : Int) (a0_1 : Int) (a0_2 : Int) (a0_3 : Int) (a0_4 : Int) (a0_5 : Int) : Option (Int × Int × Int × Int × Int × Int) := (laws_toHose.f a0_1 a0_2).bind fun bt149 => (some (a0_0, bt149.1, bt149.2, a0_3, a0_4, a0_5))
set_option maxHeartbeats 8000000 in
set_option maxRecDepth 100000 in
theorem laws_toLinePart.calls (a0_0 : Int) (a0_1 : Int) (a0_2 : Int) (a0_3 : Int) (a0_4 : Int) (a0_5 : Int) (r1 : Int) (r2 : Int) (r3 : Int) (r4 : Int) (r5 : Int) (r6 : Int) (w : World) (h : laws_toLinePart.f a0_0 a0_1 a0_2 a0_3 a0_4 a0_5 = some (r1, r2, r3, r4, r5, r6)) :
  Calls Try.prog 31 #[.agg #[.int .i64 a0_0, .int .i64 a0_1, .int .i64 a0_2, .int .i64 a0_3, .int .i64 a0_4, .int .i64 a0_5]] w fun e w' => e = .returned (.agg #[.int .i64 r1, .int .i64 r2, .int .i64 r3, .int .i64 r4, .int .i64 r5, .int .i64 r6]) ∧ Below w.heap.size w w' := by
 have hu40 := Try.underlying40
 have hu45 := Try.underlying45
 have hu38 := Try.underlying38
 have hu43 := Try.underlying43
 have HB := Aside0.mk (Below.refl w.heap.size w)
 have H : ((laws_toHose.f a0_1 a0_2).bind fun bt149 => (some (a0_0, bt149.1, bt149.2, a0_3, a0_4, a0_5))) = some (r1, r2, r3, r4, r5, r6) := h
 clear h
 replace H := Option.bind_eq_some_iff.mp H
 obtain ⟨⟨t149, t150⟩, A20, H⟩ := H
 replace H : (some (a0_0, t149, t150, a0_3, a0_4, a0_5)) = some (r1, r2, r3, r4, r5, r6) := H
 have A2 := Aside0.mk A20
 clear A20
 simp only [Option.some.injEq, Prod.mk.injEq] at H
 obtain ⟨rfl, rfl, rfl, rfl, rfl, rfl⟩ := H
 go_enter Try.func31, Try.ntmps31
 go_wp2_with (first | ((with_reducible refine gate_dst (N := 1) rfl ?_); refine box_event ?hg (N := 1) ?hd (cs := #[.int .i64 a0_0, .int .i64 a0_1, .int .i64 a0_2, .int .i64 a0_3, .int .i64 a0_4, .int .i64 a0_5]) (t := 40) ?hr ?_; (case hd => rfl); (case hg => rfl); (case hr => first | (go_simp; done) | (go_simp; rfl)); intro gb146 hg w3 hbox hb; have n0_ := Aside0.mk (below_step (by repeat (first | (with_reducible first | exact HB.out | apply bA_ | apply bN_ | apply b1_) | exact HB.out)) hb); have n1_ := Aside0.mk (hbox); have n2_ := Aside0.mk ((by rw [hg]; exact (below_size (by repeat (first | (with_reducible first | exact HB.out | apply bA_ | apply bN_ | apply b1_) | exact HB.out))) : w.heap.size ≤ gb146)); have n3_ := n2_; clear HB; have HB := n0_; have BK146 := n1_; have GW146 := n2_; have GE146 := n3_; clear n0_ n1_ n2_ n3_; clear hb hbox hg) | ((with_reducible refine gate_dst (N := 2) rfl ?_); refine box_event ?hg (N := 2) ?hd (cs := #[.int .i64 0, .int .i64 0, .int .i64 0, .int .i64 0, .int .i64 0, .int .i64 0]) (t := 45) ?hr ?_; (case hd => rfl); (case hg => rfl); (case hr => first | (go_simp; done) | (go_simp; rfl)); intro gb147 hg w4 hbox hb; have n0_ := Aside0.mk (blk_below (g := gb146) (o := .cells #[.int .i64 a0_0, .int .i64 a0_1, .int .i64 a0_2, .int .i64 a0_3, .int .i64 a0_4, .int .i64 a0_5] 40 (0, 0)) (by (with_reducible repeat (first | refine blk_drewN ?_ _ | refine blk_drew ?_ | refine blk_alloc ?_ _)); exact BK146.out) hb); have n1_ := Aside0.mk (below_step (by repeat (first | (with_reducible first | exact HB.out | apply bA_ | apply bN_ | apply b1_ | refine below_set ?_ GE146.out) | exact HB.out)) hb); have n2_ := Aside0.mk (hbox); have n3_ := Aside0.mk ((by rw [hg]; exact (below_size (by repeat (first | (with_reducible first | exact HB.out | apply bA_ | apply bN_ | apply b1_ | refine below_set ?_ GE146.out) | exact HB.out))) : w.heap.size ≤ gb147)); have n4_ := n3_; have n5_ := Aside0.mk ((by rw [hg]; exact Nat.ne_of_lt (blk_lt (g := gb146) (o := .cells #[.int .i64 a0_0, .int .i64 a0_1, .int .i64 a0_2, .int .i64 a0_3, .int .i64 a0_4, .int .i64 a0_5] 40 (0, 0)) (by (with_reducible repeat (first | refine blk_drewN ?_ _ | refine blk_drew ?_ | refine blk_alloc ?_ _)); exact BK146.out)) : gb146 ≠ gb147)); have n6_ := Aside0.mk ((by rw [hg]; exact Nat.ne_of_gt (blk_lt (g := gb146) (o := .cells #[.int .i64 a0_0, .int .i64 a0_1, .int .i64 a0_2, .int .i64 a0_3, .int .i64 a0_4, .int .i64 a0_5] 40 (0, 0)) (by (with_reducible repeat (first | refine blk_drewN ?_ _ | refine blk_drew ?_ | refine blk_alloc ?_ _)); exact BK146.out)) : gb147 ≠ gb146)); clear BK146; clear HB; have BK146 := n0_; have HB := n1_; have BK147 := n2_; have GW147 := n3_; have GE147 := n4_; have NB146_147 := n5_; have NB147_146 := n6_; clear n0_ n1_ n2_ n3_ n4_ n5_ n6_; clear hb hbox hg) | ((with_reducible refine gate_dst (N := 3) rfl ?_); refine box_event ?hg (N := 3) ?hd (cs := #[.int .i64 0, .int .i64 0, .int .i64 0, .int .i64 0, .int .i64 0, .int .i64 0]) (t := 45) ?hr ?_; (case hd => rfl); (case hg => rfl); (case hr => first | (go_simp; done) | (go_simp; rfl)); intro gb148 hg w5 hbox hb; have n0_ := Aside0.mk (blk_below (g := gb146) (o := .cells #[.int .i64 a0_0, .int .i64 a0_1, .int .i64 a0_2, .int .i64 a0_3, .int .i64 a0_4, .int .i64 a0_5] 40 (0, 0)) (by (with_reducible repeat (first | refine blk_drewN ?_ _ | refine blk_drew ?_ | refine blk_alloc ?_ _)); exact BK146.out) hb); have n1_ := Aside0.mk (blk_below (g := gb147) (o := .cells #[.int .i64 0, .int .i64 0, .int .i64 0, .int .i64 0, .int .i64 0, .int .i64 0] 45 (0, 0)) (by (with_reducible repeat (first | refine blk_drewN ?_ _ | refine blk_drew ?_ | refine blk_alloc ?_ _)); exact BK147.out) hb); have n2_ := Aside0.mk (below_step (by repeat (first | (with_reducible first | exact HB.out | apply bA_ | apply bN_ | apply b1_ | refine below_set ?_ GE146.out | refine below_set ?_ GE147.out) | exact HB.out)) hb); have n3_ := Aside0.mk (hbox); have n4_ := Aside0.mk ((by rw [hg]; exact (below_size (by repeat (first | (with_reducible first | exact HB.out | apply bA_ | apply bN_ | apply b1_ | refine below_set ?_ GE146.out | refine below_set ?_ GE147.out) | exact HB.out))) : w.heap.size ≤ gb148)); have n5_ := n4_; have n6_ := Aside0.mk ((by rw [hg]; exact Nat.ne_of_lt (blk_lt (g := gb146) (o := .cells #[.int .i64 a0_0, .int .i64 a0_1, .int .i64 a0_2, .int .i64 a0_3, .int .i64 a0_4, .int .i64 a0_5] 40 (0, 0)) (by (with_reducible repeat (first | refine blk_drewN ?_ _ | refine blk_drew ?_ | refine blk_alloc ?_ _)); exact BK146.out)) : gb146 ≠ gb148)); have n7_ := Aside0.mk ((by rw [hg]; exact Nat.ne_of_gt (blk_lt (g := gb146) (o := .cells #[.int .i64 a0_0, .int .i64 a0_1, .int .i64 a0_2, .int .i64 a0_3, .int .i64 a0_4, .int .i64 a0_5] 40 (0, 0)) (by (with_reducible repeat (first | refine blk_drewN ?_ _ | refine blk_drew ?_ | refine blk_alloc ?_ _)); exact BK146.out)) : gb148 ≠ gb146)); have n8_ := Aside0.mk ((by rw [hg]; exact Nat.ne_of_lt (blk_lt (g := gb147) (o := .cells #[.int .i64 0, .int .i64 0, .int .i64 0, .int .i64 0, .int .i64 0, .int .i64 0] 45 (0, 0)) (by (with_reducible repeat (first | refine blk_drewN ?_ _ | refine blk_drew ?_ | refine blk_alloc ?_ _)); exact BK147.out)) : gb147 ≠ gb148)); have n9_ := Aside0.mk ((by rw [hg]; exact Nat.ne_of_gt (blk_lt (g := gb147) (o := .cells #[.int .i64 0, .int .i64 0, .int .i64 0, .int .i64 0, .int .i64 0, .int .i64 0] 45 (0, 0)) (by (with_reducible repeat (first | refine blk_drewN ?_ _ | refine blk_drew ?_ | refine blk_alloc ?_ _)); exact BK147.out)) : gb148 ≠ gb147)); clear BK146; clear BK147; clear HB; have BK146 := n0_; have BK147 := n1_; have HB := n2_; have BK148 := n3_; have GW148 := n4_; have GE148 := n5_; have NB146_148 := n6_; have NB148_146 := n7_; have NB147_148 := n8_; have NB148_147 := n9_; clear n0_ n1_ n2_ n3_ n4_ n5_ n6_ n7_ n8_ n9_; clear hb hbox hg; have hnb6 := NB146_147.out; have hnc6 := NB147_146.out; have hnb7 := NB146_148.out; have hnc7 := NB148_146.out; obtain ⟨hcz8_0, hcz8_1, hcz8_2, hcz8_3, hcz8_4, hcz8_5, hfz8_0, hfz8_1, hfz8_2, hfz8_3, hfz8_4, hfz8_5⟩ := blk6_ BK146.out; have hnb9 := NB148_147.out; have hnc9 := NB147_148.out; obtain ⟨hcz10_0, hcz10_1, hcz10_2, hcz10_3, hcz10_4, hcz10_5, hfz10_0, hfz10_1, hfz10_2, hfz10_3, hfz10_4, hfz10_5⟩ := blk6_ BK148.out) | ((with_reducible refine gate_callee (f := 58) rfl ?_); refine goesL_ (some 9) rfl rfl Try.func58 (by kernel_rfl) rfl #[.agg #[.int .i64 a0_1, .int .i64 a0_2]] rfl (by (try simp only [List.map_toArray, List.map_cons, List.map_nil]); first | done | rfl) ?_; (with_reducible refine (laws_toHose.calls a0_1 a0_2 t149 t150 _ A2.out).mono ?_); rintro e w11 ⟨rfl, hb⟩; refine ⟨_, rfl, ?_⟩; have n0_ := Aside0.mk (blk_below (g := gb146) (o := .cells #[.int .i64 a0_0, .int .i64 a0_1, .int .i64 a0_2, .int .i64 a0_3, .int .i64 a0_4, .int .i64 a0_5] 40 (0, 0)) (by (with_reducible repeat (first | refine blk_drewN ?_ _ | refine blk_drew ?_ | refine blk_alloc ?_ _)); refine blk_far ?_ NB146_148.out _; (with_reducible repeat (first | refine blk_drewN ?_ _ | refine blk_drew ?_ | refine blk_alloc ?_ _)); exact BK146.out) hb); have n1_ := Aside0.mk (blk_below (g := gb147) (o := .cells #[.int .i64 0, .int .i64 0, .int .i64 0, .int .i64 0, .int .i64 0, .int .i64 0] 45 (0, 0)) (by (with_reducible repeat (first | refine blk_drewN ?_ _ | refine blk_drew ?_ | refine blk_alloc ?_ _)); refine blk_far ?_ NB147_148.out _; (with_reducible repeat (first | refine blk_drewN ?_ _ | refine blk_drew ?_ | refine blk_alloc ?_ _)); exact BK147.out) hb); have n2_ := Aside0.mk (blk_below (g := gb148) (o := .cells #[.int .i64 a0_0, .int .i64 0, .int .i64 0, .int .i64 0, .int .i64 0, .int .i64 0] 45 (0, 0)) (by (with_reducible repeat (first | refine blk_drewN ?_ _ | refine blk_drew ?_ | refine blk_alloc ?_ _)); refine blk_put (cs := #[.int .i64 0, .int .i64 0, .int .i64 0, .int .i64 0, .int .i64 0, .int .i64 0]) ?_ 0 _ rfl; (with_reducible repeat (first | refine blk_drewN ?_ _ | refine blk_drew ?_ | refine blk_alloc ?_ _)); exact BK148.out) hb); have n3_ := Aside0.mk (below_step (by repeat (first | (with_reducible first | exact HB.out | apply bA_ | apply bN_ | apply b1_ | refine below_set ?_ GE146.out | refine below_set ?_ GE147.out | refine below_set ?_ GE148.out) | exact HB.out)) hb); clear BK146; clear BK147; clear BK148; clear HB; have BK146 := n0_; have BK147 := n1_; have BK148 := n2_; have HB := n3_; clear n0_ n1_ n2_ n3_; (try clear hb); (try clear hb2); (try clear hk); (try clear hi); obtain ⟨hcz12_0, hcz12_1, hcz12_2, hcz12_3, hcz12_4, hcz12_5, hfz12_0, hfz12_1, hfz12_2, hfz12_3, hfz12_4, hfz12_5⟩ := blk6_ BK148.out; obtain ⟨hcz13_0, hcz13_1, hcz13_2, hcz13_3, hcz13_4, hcz13_5, hfz13_0, hfz13_1, hfz13_2, hfz13_3, hfz13_4, hfz13_5⟩ := blk6_ BK146.out; obtain ⟨hcz14_0, hcz14_1, hcz14_2, hcz14_3, hcz14_4, hcz14_5, hfz14_0, hfz14_1, hfz14_2, hfz14_3, hfz14_4, hfz14_5⟩ := blk6_ BK147.out))
 refine bodyPost_ret (results_cell_row rfl _ _ gb147 45 #[.int .i64 a0_0, .int .i64 t149, .int .i64 t150, .int .i64 a0_3, .int .i64 a0_4, .int .i64 a0_5] (0, 0) _ rfl (by (with_reducible repeat (first | refine blk_drewN ?_ _ | refine blk_drew ?_ | refine blk_alloc ?_ _)); refine blk_put (cs := #[.int .i64 a0_0, .int .i64 t149, .int .i64 t150, .int .i64 a0_3, .int .i64 a0_4, .int .i64 0]) ?_ 5 _ rfl; (with_reducible repeat (first | refine blk_drewN ?_ _ | refine blk_drew ?_ | refine blk_alloc ?_ _)); refine blk_put (cs := #[.int .i64 a0_0, .int .i64 t149, .int .i64 t150, .int .i64 a0_3, .int .i64 0, .int .i64 0]) ?_ 4 _ rfl; (with_reducible repeat (first | refine blk_drewN ?_ _ | refine blk_drew ?_ | refine blk_alloc ?_ _)); refine blk_put (cs := #[.int .i64 a0_0, .int .i64 t149, .int .i64 t150, .int .i64 0, .int .i64 0, .int .i64 0]) ?_ 3 _ rfl; (with_reducible repeat (first | refine blk_drewN ?_ _ | refine blk_drew ?_ | refine blk_alloc ?_ _)); refine blk_put (cs := #[.int .i64 a0_0, .int .i64 t149, .int .i64 0, .int .i64 0, .int .i64 0, .int .i64 0]) ?_ 2 _ rfl; (with_reducible repeat (first | refine blk_drewN ?_ _ | refine blk_drew ?_ | refine blk_alloc ?_ _)); refine blk_put (cs := #[.int .i64 a0_0, .int .i64 0, .int .i64 0, .int .i64 0, .int .i64 0, .int .i64 0]) ?_ 1 _ rfl; (with_reducible repeat (first | refine blk_drewN ?_ _ | refine blk_drew ?_ | refine blk_alloc ?_ _)); refine blk_put (cs := #[.int .i64 0, .int .i64 0, .int .i64 0, .int .i64 0, .int .i64 0, .int .i64 0]) ?_ 0 _ rfl; (with_reducible repeat (first | refine blk_drewN ?_ _ | refine blk_drew ?_ | refine blk_alloc ?_ _)); refine blk_far ?_ NB147_148.out _; (with_reducible repeat (first | refine blk_drewN ?_ _ | refine blk_drew ?_ | refine blk_alloc ?_ _)); refine blk_far ?_ NB147_148.out _; (with_reducible repeat (first | refine blk_drewN ?_ _ | refine blk_drew ?_ | refine blk_alloc ?_ _)); refine blk_far ?_ NB147_148.out _; (with_reducible repeat (first | refine blk_drewN ?_ _ | refine blk_drew ?_ | refine blk_alloc ?_ _)); refine blk_far ?_ NB147_148.out _; (with_reducible repeat (first | refine blk_drewN ?_ _ | refine blk_drew ?_ | refine blk_alloc ?_ _)); refine blk_far ?_ NB147_148.out _; (with_reducible repeat (first | refine blk_drewN ?_ _ | refine blk_drew ?_ | refine blk_alloc ?_ _)); exact BK147.out) Try.underlying45 rfl (by kernel_rfl)) rfl ?_
 exact ⟨by first | rfl | (simp [errW_none, errW_some] <;> rfl) | (simp [*, errW_none, errW_some] <;> rfl), by repeat (first | (with_reducible first | exact HB.out | apply bA_ | apply bN_ | apply b1_ | refine below_set ?_ GE146.out | refine below_set ?_ GE147.out | refine below_set ?_ GE148.out) | exact HB.out)⟩

/-! ### laws_toLinePartS: function 17 -/
def laws_toLinePartS.l0 : Nat → List (S40) → List (S45) → Int → Option ((List (S45)))
  | 0, _, _, _ => none
  | k + 1, x0, x3, x4 => if x4 < (x0.length : Int) then (if 0 ≤ x4 then ((laws_toLinePart.f ((rd_T40 x0 x4).f0) ((rd_T40 x0 x4).f1.f0) ((rd_T40 x0 x4).f1.f1) ((rd_T40 x0 x4).f2) ((rd_T40 x0 x4).f3) ((rd_T40 x0 x4).f4)).bind fun bt155 => (if x4 < (x3.length : Int) then (laws_toLinePartS.l0 k x0 (x3.set (x4 : Int).toNat (⟨bt155.1, (⟨bt155.2.1, bt155.2.2.1⟩ : S43), bt155.2.2.2.1, bt155.2.2.2.2.1, bt155.2.2.2.2.2⟩ : S45)) (wrap64 (x4 + 1))) else (none))) else (none)) else (some x3)
def laws_toLinePartS.f (k : Nat) (l0 : List (S40)) : Option ((List (S45))) := if 0 ≤ (l0.length : Int) then (if ((l0.length : Int) : Int).toNat ≤ 5864062014805 then (laws_toLinePartS.l0 k l0 (List.replicate ((l0.length : Int) : Int).toNat z45) 0) else (none)) else (none)
theorem laws_toLinePartS.mono_l : ∀ k, (∀ y0 y1 y2, LeO (laws_toLinePartS.l0 k y0 y1 y2) (laws_toLinePartS.l0 (k + 1) y0 y1 y2))
 | 0 => fun _ _ _ r h => by simp [laws_toLinePartS.l0] at h
 | k + 1 => by
  have ih0 := laws_toLinePartS.mono_l k
  · intro y0 y1 y2
    unfold laws_toLinePartS.l0
    repeat' first
    | (with_reducible exact ih0 _ _ _)
    | (with_reducible exact LeO.refl _)
    | (with_reducible exact LeO.none _)
    | (with_reducible refine LeO.ite ?_ ?_)
    | (with_reducible refine LeO.bind ?_ (fun _ => ?_))
    | exact ih0 _ _ _
    | exact LeO.none _
    | refine LeO.ite ?_ ?_
    | refine LeO.bind ?_ (fun _ => ?_)
theorem laws_toLinePartS.mono : ∀ a0 k, LeO (laws_toLinePartS.f k a0) (laws_toLinePartS.f (k + 1) a0) := by
 intro a0 k
 have ih0 := laws_toLinePartS.mono_l k
 unfold laws_toLinePartS.f
 repeat' first
  | (with_reducible exact ih0 _ _ _)
  | (with_reducible exact LeO.refl _)
  | (with_reducible exact LeO.none _)
  | (with_reducible refine LeO.ite ?_ ?_)
  | (with_reducible refine LeO.bind ?_ (fun _ => ?_))
  | exact ih0 _ _ _
  | exact LeO.none _
  | refine LeO.ite ?_ ?_
  | refine LeO.bind ?_ (fun _ => ?_)
set_option maxHeartbeats 8000000 in
set_option maxRecDepth 100000 in
theorem laws_toLinePartS.calls (k : Nat) (A0 : Option Addr) (c0 : Nat) (l0 : List (S40)) (r : List (S45)) (w : World) (hr0 : Kd.C k40 w A0 l0.length l0) (hc0 : l0.length ≤ c0) (h : laws_toLinePartS.f k l0 = some r) :
  Calls Try.prog 17 #[.slice A0 l0.length c0] w fun e w' => ∃ v0_ : Value, e = .returned (v0_) ∧ Kd.R k45 45 w' w.heap.size (fun _ => True) v0_ r ∧ Below w.heap.size w w' := by
 have hu40 := Try.underlying40
 have hu45 := Try.underlying45
 have HR0 := Aside0.mk hr0
 have HC0 := Aside0.mk hc0
 clear hr0 hc0
 have HB := Aside0.mk (Below.refl w.heap.size w)
 have H : (if 0 ≤ (l0.length : Int) then (if ((l0.length : Int) : Int).toNat ≤ 5864062014805 then (laws_toLinePartS.l0 k l0 (List.replicate ((l0.length : Int) : Int).toNat z45) 0) else (none)) else (none)) = some r := h
 clear h
 by_cases c2 : 0 ≤ (l0.length : Int)
 case neg =>
  rw [if_neg c2] at H
  exact absurd H (by simp)
 rw [if_pos c2] at H
 have c2b0 := eq_true c2
 have c2b1 : decide (0 ≤ (l0.length : Int)) = true := decide_eq_true c2
 clear c2
 by_cases c3 : ((l0.length : Int) : Int).toNat ≤ 5864062014805
 case neg =>
  rw [if_neg c3] at H
  exact absurd H (by simp)
 rw [if_pos c3] at H
 have c3b0 := eq_true c3
 have c3b1 : decide (((l0.length : Int) : Int).toNat ≤ 5864062014805) = true := decide_eq_true c3
 clear c3
 obtain ⟨y151, hy151⟩ : ∃ y_ : List (S45), y_ = (List.replicate ((l0.length : Int) : Int).toNat z45) := ⟨_, rfl⟩
 replace H : (laws_toLinePartS.l0 k l0 y151 0) = some r := by first | (rw [hy151]; with_reducible exact H) | (have H2_ := (Option.bind_some _ _).symm.trans H; rw [hy151]; with_reducible exact H2_) | (have H2_ := (Option.bind_some _ _).symm.trans H; with_reducible exact H2_) | with_reducible exact H | (rw [hy151]; exact H) | exact H
 have Ny151 := Aside0.mk hy151
 clear hy151
 have H' := Aside0.mk H
 clear H
 go_enter Try.func17, Try.ntmps17
 go_wp2_with (first | ((with_reducible refine gate_dst (N := 7) rfl ?_); refine Kd.R_make k45 _ 45 rfl (N := 7) rfl 25 _ _ rfl (l0.length : Int) rfl rfl Try.underlying25 (.agg #[(.int .i64 0), (.int .i64 0), (.int .i64 0), (.int .i64 0), (.int .i64 0), (.int .i64 0)]) 48 info45 rfl (by decide) (by omega) z45 (ok := fun _ => True) (okp := fun _ => True) (k45_mkM _ _ _ z45 ) (fun _ hk => hk) trivial (of_decide_eq_true (by first|with_reducible assumption|assumption)) (Nat.le_trans (Nat.mul_le_mul_right _ (of_decide_eq_true (by first|with_reducible assumption|assumption) : (l0.length : Int).toNat ≤ 5864062014805)) (by omega)) (Below.refl _ _) (Nat.le_refl _) ?_; intro v152 w4 ho5 hb hg_ hnew_; clear hg_ hnew_; (first | rw [← Ny151.out] at ho5 | (simp only [Int.reduceToNat] at ho5; rw [← Ny151.out] at ho5)); have n0_ := Aside0.mk (Kd.R_lower ho5 (below_size (by repeat (first | (with_reducible first | exact HB.out | apply bA_ | apply bN_ | apply b1_) | exact HB.out)))); have n1_ := Aside0.mk (below_step (by repeat (first | (with_reducible first | exact HB.out | apply bA_ | apply bN_ | apply b1_) | exact HB.out)) hb); clear HB; have HO153 := n0_; have HB := n1_; clear n0_ n1_; clear hb ho5))
 go_loopg [4] k (fun kq v4 w' => ∃ (x3_1 : List (S45)) (x4_1 : Int), v4 = .int .i64 x4_1 ∧ Aside0 (laws_toLinePartS.l0 kq l0 x3_1 x4_1 = some r) ∧ Aside0 (kq ≤ k) ∧ Aside0 (Kd.R k45 45 w' w.heap.size (fun _ => True) v152 x3_1) ∧ Aside0 (Below w.heap.size w w'))
 case atStart => exact ⟨(y151), (0), (by first | rfl | (simp; done) | (simp [*]; done)), H', ⟨Nat.le_refl _⟩, ⟨by (with_reducible repeat (first | apply Kd.R_alloc | apply Kd.R_drewN | apply Kd.R_drew)); exact HO153.out⟩, ⟨by repeat (first | (with_reducible first | exact HB.out | apply bA_ | apply bN_ | apply b1_) | exact HB.out)⟩⟩
 case round =>
  clear H'
  try clear c1
  try clear c2
  try clear c2b0
  try clear c2b1
  try clear p2
  try clear c3
  try clear c3b0
  try clear c3b1
  obtain ⟨x3_1, x4_1, rfl, HA, HK1, HO_3, HB⟩ := hrel
  cases gk with
  | zero => exact absurd HA.out (by simp [laws_toLinePartS.l0])
  | succ k1 =>
   have H := HA.out
   clear HA
   simp only [laws_toLinePartS.l0] at H
   by_cases c6 : x4_1 < (l0.length : Int)
   case neg =>
    rw [if_neg c6] at H
    have c6b0 : decide (x4_1 < (l0.length : Int)) = false := decide_eq_false c6
    clear c6
    obtain rfl := Option.some.inj H
    go_wp2
    go_ret
    exact ⟨_, by first | rfl | (simp [errW_none, errW_some] <;> rfl) | (simp [*, errW_none, errW_some] <;> rfl), by (with_reducible repeat (first | apply Kd.R_alloc | apply Kd.R_drewN | apply Kd.R_drew)); exact HO_3.out, by repeat (first | (with_reducible first | exact HB.out | apply bA_ | apply bN_ | apply b1_) | exact HB.out)⟩
   rw [if_pos c6] at H
   have c6b0 : decide (x4_1 < (l0.length : Int)) = true := decide_eq_true c6
   clear c6
   by_cases c7 : 0 ≤ x4_1
   case neg =>
    rw [if_neg c7] at H
    exact absurd H (by simp)
   rw [if_pos c7] at H
   have c7b0 : decide (0 ≤ x4_1) = true := decide_eq_true c7
   clear c7
   replace H := Option.bind_eq_some_iff.mp H
   obtain ⟨⟨t155, t156, t157, t158, t159, t160⟩, A80, H⟩ := H
   replace H : (if x4_1 < (x3_1.length : Int) then (laws_toLinePartS.l0 k1 l0 (x3_1.set (x4_1 : Int).toNat (⟨t155, (⟨t156, t157⟩ : S43), t158, t159, t160⟩ : S45)) (wrap64 (x4_1 + 1))) else (none)) = some r := H
   have A8 := Aside0.mk A80
   clear A80
   by_cases c9 : x4_1 < (x3_1.length : Int)
   case neg =>
    rw [if_neg c9] at H
    exact absurd H (by simp)
   rw [if_pos c9] at H
   have c9b0 : decide (x4_1 < (x3_1.length : Int)) = true := decide_eq_true c9
   clear c9
   obtain ⟨y161, hy161⟩ : ∃ y_ : List (S45), y_ = (x3_1.set (x4_1 : Int).toNat (⟨t155, (⟨t156, t157⟩ : S43), t158, t159, t160⟩ : S45)) := ⟨_, rfl⟩
   replace H : (laws_toLinePartS.l0 k1 l0 y161 (wrap64 (x4_1 + 1))) = some r := by first | (rw [hy161]; with_reducible exact H) | (have H2_ := (Option.bind_some _ _).symm.trans H; rw [hy161]; with_reducible exact H2_) | (have H2_ := (Option.bind_some _ _).symm.trans H; with_reducible exact H2_) | with_reducible exact H | (rw [hy161]; exact H) | exact H
   have Ny161 := Aside0.mk hy161
   clear hy161
   have H' := Aside0.mk H
   clear H
   have p154 : 0 ≤ (x4_1 : Int) := of_decide_eq_true (by first|with_reducible assumption|assumption)
   have q154 : x4_1 < (l0.length : Int) := of_decide_eq_true (by first|with_reducible assumption|assumption)
   obtain ⟨ad154, e154, hx154_0, hx154_1, hx154_2, hx154_3, hx154_4, hx154_5⟩ := at_T40 HR0.out x4_1 p154 q154
   cases e154
   replace hx154_0 := cl_ HB.out hx154_0
   replace hx154_1 := cl_ HB.out hx154_1
   replace hx154_2 := cl_ HB.out hx154_2
   replace hx154_3 := cl_ HB.out hx154_3
   replace hx154_4 := cl_ HB.out hx154_4
   replace hx154_5 := cl_ HB.out hx154_5
   replace p154 := eq_true p154
   replace q154 := eq_true q154
   go_wp2_with (first | ((with_reducible refine gate_callee (f := 31) rfl ?_); refine goesL_ (some 20) rfl rfl Try.func31 (by kernel_rfl) rfl #[.agg #[.int .i64 ((rd_T40 l0 x4_1).f0), .int .i64 ((rd_T40 l0 x4_1).f1.f0), .int .i64 ((rd_T40 l0 x4_1).f1.f1), .int .i64 ((rd_T40 l0 x4_1).f2), .int .i64 ((rd_T40 l0 x4_1).f3), .int .i64 ((rd_T40 l0 x4_1).f4)]] rfl (by (try simp only [List.map_toArray, List.map_cons, List.map_nil]); first | done | rfl) ?_; (with_reducible refine (laws_toLinePart.calls ((rd_T40 l0 x4_1).f0) ((rd_T40 l0 x4_1).f1.f0) ((rd_T40 l0 x4_1).f1.f1) ((rd_T40 l0 x4_1).f2) ((rd_T40 l0 x4_1).f3) ((rd_T40 l0 x4_1).f4) t155 t156 t157 t158 t159 t160 _ A8.out).mono ?_); rintro e w11 ⟨rfl, hb⟩; refine ⟨_, rfl, ?_⟩; have n0_ := Aside0.mk (Kd.R_below (by (with_reducible repeat (first | apply Kd.R_alloc | apply Kd.R_drewN | apply Kd.R_drew)); exact HO_3.out) hb); have n1_ := Aside0.mk (below_step (by repeat (first | (with_reducible first | exact HB.out | apply bA_ | apply bN_ | apply b1_) | exact HB.out)) hb); clear HO_3; clear HB; have HO_3 := n0_; have HB := n1_; clear n0_ n1_; (try clear hb); (try clear hb2); (try clear hk); (try clear hi); have p10 : 0 ≤ (x4_1 : Int) := of_decide_eq_true (by first|with_reducible assumption|assumption); have q10 : (x4_1 : Int) < ((x3_1.length : Int) : Int) := of_decide_eq_true (by first|with_reducible assumption|assumption); obtain ⟨go10, co10, eo10, gb10, gl10, cl10, HG10⟩ := Kd.R_form HO_3.out (by omega); (first | cases eo10 | (injection eo10 with ea_ en_ ec_; (first | subst ea_ | (injection ea_ with ea_; subst ea_)); subst ec_; clear en_)); have GB10 := Aside0.mk gb10; have GG10 := Aside0.mk HG10; clear gb10 gl10 HG10; obtain ⟨ce10, hcl10, hM10, hcc10, hfr10⟩ := Kd.R_elem HO_3.out z45 (x4_1 : Int) p10 q10; obtain rfl := k45_openM hM10; have hx10_0 : w11.cell? ⟨go10, (x4_1 : Int).toNat * 6, none⟩ = some (.int .i64 ((rd_T45 x3_1 x4_1).f0)) := hcc10 0 _ rfl; have hx10_1 : w11.cell? ⟨go10, (x4_1 : Int).toNat * 6 + 1, none⟩ = some (.int .i64 ((rd_T45 x3_1 x4_1).f1.f0)) := hcc10 1 _ rfl; have hx10_2 : w11.cell? ⟨go10, (x4_1 : Int).toNat * 6 + 2, none⟩ = some (.int .i64 ((rd_T45 x3_1 x4_1).f1.f1)) := hcc10 2 _ rfl; have hx10_3 : w11.cell? ⟨go10, (x4_1 : Int).toNat * 6 + 3, none⟩ = some (.int .i64 ((rd_T45 x3_1 x4_1).f2)) := hcc10 3 _ rfl; have hx10_4 : w11.cell? ⟨go10, (x4_1 : Int).toNat * 6 + 4, none⟩ = some (.int .i64 ((rd_T45 x3_1 x4_1).f3)) := hcc10 4 _ rfl; have hx10_5 : w11.cell? ⟨go10, (x4_1 : Int).toNat * 6 + 5, none⟩ = some (.int .i64 ((rd_T45 x3_1 x4_1).f4)) := hcc10 5 _ rfl; have hf10_0 : w11.frozen? ⟨go10, (x4_1 : Int).toNat * 6, none⟩ = false := hfr10 0; have hf10_1 : w11.frozen? ⟨go10, (x4_1 : Int).toNat * 6 + 1, none⟩ = false := hfr10 1; have hf10_2 : w11.frozen? ⟨go10, (x4_1 : Int).toNat * 6 + 2, none⟩ = false := hfr10 2; have hf10_3 : w11.frozen? ⟨go10, (x4_1 : Int).toNat * 6 + 3, none⟩ = false := hfr10 3; have hf10_4 : w11.frozen? ⟨go10, (x4_1 : Int).toNat * 6 + 4, none⟩ = false := hfr10 4; have hf10_5 : w11.frozen? ⟨go10, (x4_1 : Int).toNat * 6 + 5, none⟩ = false := hfr10 5; clear hcl10 hcc10 hfr10 hM10; replace p10 := eq_true p10; replace q10 := eq_true q10; have HX12 := Aside0.mk (show Kd.R k45 45 w11 w.heap.size (fun _ => True) (.slice (some ⟨go10, 0, none⟩) x3_1.length co10) x3_1 from (by (with_reducible repeat (first | apply Kd.R_alloc | apply Kd.R_drewN | apply Kd.R_drew)); exact HO_3.out)); obtain ⟨ce12, hcl12, hM12, hcc12, hfr12⟩ := Kd.R_elem HX12.out z45 (x4_1 : Int) (of_decide_eq_true (by first|with_reducible assumption|assumption)) (by have h_ : (x4_1 : Int) < ((x3_1.length : Int) : Int) := of_decide_eq_true (by first|with_reducible assumption|assumption); first | exact h_ | (have e_ := (Kd.R_reads' HO_3.out).1; omega) | simpa using h_); obtain rfl := k45_openM hM12; have HP12 := Kd.R_seg HX12.out (x4_1 : Int) (of_decide_eq_true (by first|with_reducible assumption|assumption)) (by have h_ : (x4_1 : Int) < ((x3_1.length : Int) : Int) := of_decide_eq_true (by first|with_reducible assumption|assumption); first | exact h_ | (have e_ := (Kd.R_reads' HO_3.out).1; omega) | simpa using h_) (seg := [.int .i64 t155, .int .i64 t156, .int .i64 t157, .int .i64 t158, .int .i64 t159, .int .i64 t160]) (j := 0) hcl12 hcc12 (show 6 ≤ 6 from by decide) (x' := (⟨t155, (⟨t156, t157⟩ : S43), t158, t159, t160⟩ : S45)) (k45_mkM _ _ _ (⟨t155, (⟨t156, t157⟩ : S43), t158, t159, t160⟩ : S45) ) (fun _ hk => hk); have hx12_0 := hcc12 0 _ rfl; (try simp only [show (k45).sz = 6 from rfl, Nat.mul_one, Nat.add_zero] at hx12_0); have hf12_0 := hfr12 0; (try simp only [show (k45).sz = 6 from rfl, Nat.mul_one, Nat.add_zero] at hf12_0); have hx12_1 := hcc12 1 _ rfl; (try simp only [show (k45).sz = 6 from rfl, Nat.mul_one, Nat.add_zero] at hx12_1); have hf12_1 := hfr12 1; (try simp only [show (k45).sz = 6 from rfl, Nat.mul_one, Nat.add_zero] at hf12_1); have hx12_2 := hcc12 2 _ rfl; (try simp only [show (k45).sz = 6 from rfl, Nat.mul_one, Nat.add_zero] at hx12_2); have hf12_2 := hfr12 2; (try simp only [show (k45).sz = 6 from rfl, Nat.mul_one, Nat.add_zero] at hf12_2); have hx12_3 := hcc12 3 _ rfl; (try simp only [show (k45).sz = 6 from rfl, Nat.mul_one, Nat.add_zero] at hx12_3); have hf12_3 := hfr12 3; (try simp only [show (k45).sz = 6 from rfl, Nat.mul_one, Nat.add_zero] at hf12_3); have hx12_4 := hcc12 4 _ rfl; (try simp only [show (k45).sz = 6 from rfl, Nat.mul_one, Nat.add_zero] at hx12_4); have hf12_4 := hfr12 4; (try simp only [show (k45).sz = 6 from rfl, Nat.mul_one, Nat.add_zero] at hf12_4); have hx12_5 := hcc12 5 _ rfl; (try simp only [show (k45).sz = 6 from rfl, Nat.mul_one, Nat.add_zero] at hx12_5); have hf12_5 := hfr12 5; (try simp only [show (k45).sz = 6 from rfl, Nat.mul_one, Nat.add_zero] at hf12_5); clear hcl12 hcc12 hfr12 hM12) | ((with_reducible refine gate_store (t := 45) (p := 21) rfl ?_); refine store_event (t := 45) (p := 21) (v := ?vo_w13) (w1 := ((((((w11.setCell ⟨go10, (x4_1 : Int).toNat * 6, none⟩ (.int .i64 t155)).setCell ⟨go10, (x4_1 : Int).toNat * 6 + 1, none⟩ (.int .i64 t156)).setCell ⟨go10, (x4_1 : Int).toNat * 6 + 2, none⟩ (.int .i64 t157)).setCell ⟨go10, (x4_1 : Int).toNat * 6 + 3, none⟩ (.int .i64 t158)).setCell ⟨go10, (x4_1 : Int).toNat * 6 + 4, none⟩ (.int .i64 t159)).setCell ⟨go10, (x4_1 : Int).toNat * 6 + 5, none⟩ (.int .i64 t160))) ?hg ?ho ?hn ?hr ?_; (case ho => rfl); (case hg => rfl); (case hn => rfl); (case hr => first | (go_simp; done) | (go_simp; rfl)); intro w13 hw; have hg : w11.grownBy w13 (some go10) := (by rw [hw]; exact HP12.2); have hp_ : Kd.R k45 45 w13 w.heap.size (fun _ => True) (.slice (some ⟨go10, 0, none⟩) x3_1.length co10) y161 := (by rw [hw, Ny161.out]; exact HP12.1); clear HP12; have n0_ := Aside0.mk (hp_); have n1_ := Aside0.mk ((by rw [hw]; exact below_set (below_set (below_set (below_set (below_set (below_set (HB.out) GB10.out) GB10.out) GB10.out) GB10.out) GB10.out) GB10.out : Below w.heap.size w w13)); clear HO_3; clear HB; have HO_3 := n0_; have HB := n1_; clear n0_ n1_; clear hg hw hp_))
   go_roundg k1
   case measure => have := HK1.out; omega
   case rel => exact ⟨(y161), (wrap64 (x4_1 + 1)), (by first | rfl | (simp; done) | (simp [*]; done)), H', ⟨by have := HK1.out; omega⟩, ⟨by (with_reducible repeat (first | apply Kd.R_alloc | apply Kd.R_drewN | apply Kd.R_drew)); exact HO_3.out⟩, ⟨by repeat (first | (with_reducible first | exact HB.out | apply bA_ | apply bN_ | apply b1_) | exact HB.out)⟩⟩

end Go.Proofs.Ytenfngleiohbhaa.P
