/- Written by a program of this session (wip/p2) out of the translation: plain Lean functions, and that the calls of the Go functions come to what these say. Conditions: as each contract states. -/
import Derived.Test.YtenfngleiohbhaaPx0
import Derived.Test.YtenfngleiohbhaaPx4
import Derived.Test.YtenfngleiohbhaaPx5
namespace Go.Proofs.Ytenfngleiohbhaa.P
open Go.RowKit Go.Proofs.YtenfngleiohbhaaW.PrintWords Go.Proofs.YtenfngleiohbhaaW.PrintLast Go.Proofs.YtenfngleiohbhaaW.PrintMore
attribute [local go_sem] max2_int min2_int max_two min_two max_three min_three max_four min_four   -- for this text's walks alone
set_option linter.unusedVariables false
set_option linter.unusedSimpArgs false

/-! ### spec_liPart: function 75 -/
def spec_liPart.j0 : Nat → Bool → Int → Int → Int → Int → Int → Int → Option (Bool)
  | 0, _, _, _, _, _, _, _ => none
  | k + 1, x43, x124000, x124001, x124002, x124003, x124004, x124005 => if x43 = true then (some false) else (if x124004 = 0 then (some (x124005 == 0)) else ((spec_hoNozzle.f x124004).bind fun t130 => (if t130 = true then ((spec_l1In.f x124005 1 3000).bind fun t131 => (if t131 = true then ((spec_hoNeeds.f k x124004 x124005).bind fun bt132 => (some bt132.2)) else (some false))) else (some false))))
def spec_liPart.f (k : Nat) (l0 : List (S45)) (a1 : Int) : Option (Bool) := if 0 ≤ a1 then (if a1 < (l0.length : Int) then ((spec_l1In.f ((rd_T45 l0 a1).f0) (-1) (wrap64 (a1 - 1))).bind fun t124 => (if t124 = true then (if ((rd_T45 l0 a1).f0) ≥ 0 then (if 0 ≤ ((rd_T45 l0 a1).f0) then (if ((rd_T45 l0 a1).f0) < (l0.length : Int) then (if ((rd_T45 l0 ((rd_T45 l0 a1).f0)).f3) > 0 then (spec_liPart.j0 k true ((rd_T45 l0 a1).f0) ((rd_T45 l0 a1).f1.f0) ((rd_T45 l0 a1).f1.f1) ((rd_T45 l0 a1).f2) ((rd_T45 l0 a1).f3) ((rd_T45 l0 a1).f4)) else ((spec_hoOne.f ((rd_T45 l0 a1).f1.f0) ((rd_T45 l0 a1).f1.f1)).bind fun t126 => (if t126 = true then ((spec_l1In.f ((rd_T45 l0 a1).f2) (-500) 500).bind fun t127 => (spec_liPart.j0 k (!t127) ((rd_T45 l0 a1).f0) ((rd_T45 l0 a1).f1.f0) ((rd_T45 l0 a1).f1.f1) ((rd_T45 l0 a1).f2) ((rd_T45 l0 a1).f3) ((rd_T45 l0 a1).f4))) else (spec_liPart.j0 k true ((rd_T45 l0 a1).f0) ((rd_T45 l0 a1).f1.f0) ((rd_T45 l0 a1).f1.f1) ((rd_T45 l0 a1).f2) ((rd_T45 l0 a1).f3) ((rd_T45 l0 a1).f4))))) else (none)) else (none)) else ((spec_hoOne.f ((rd_T45 l0 a1).f1.f0) ((rd_T45 l0 a1).f1.f1)).bind fun t128 => (if t128 = true then ((spec_l1In.f ((rd_T45 l0 a1).f2) (-500) 500).bind fun t129 => (spec_liPart.j0 k (!t129) ((rd_T45 l0 a1).f0) ((rd_T45 l0 a1).f1.f0) ((rd_T45 l0 a1).f1.f1) ((rd_T45 l0 a1).f2) ((rd_T45 l0 a1).f3) ((rd_T45 l0 a1).f4))) else (spec_liPart.j0 k true ((rd_T45 l0 a1).f0) ((rd_T45 l0 a1).f1.f0) ((rd_T45 l0 a1).f1.f1) ((rd_T45 l0 a1).f2) ((rd_T45 l0 a1).f3) ((rd_T45 l0 a1).f4))))) else (spec_liPart.j0 k true ((rd_T45 l0 a1).f0) ((rd_T45 l0 a1).f1.f0) ((rd_T45 l0 a1).f1.f1) ((rd_T45 l0 a1).f2) ((rd_T45 l0 a1).f3) ((rd_T45 l0 a1).f4)))) else (none)) else (none)
theorem spec_liPart.mono_l : ∀ k, (∀ y0 y1 y2 y3 y4 y5 y6, LeO (spec_liPart.j0 k y0 y1 y2 y3 y4 y5 y6) (spec_liPart.j0 (k + 1) y0 y1 y2 y3 y4 y5 y6))
 | 0 => fun _ _ _ _ _ _ _ r h => by simp [spec_liPart.j0] at h
 | k + 1 => by
  have ih0 := spec_liPart.mono_l k
  · intro y0 y1 y2 y3 y4 y5 y6
    unfold spec_liPart.j0
    repeat' first
    | (with_reducible exact ih0 _ _ _ _ _ _ _)
    | (with_reducible exact spec_hoNeeds.mono _ _ _)
    | (with_reducible exact LeO.refl _)
    | (with_reducible exact LeO.none _)
    | (with_reducible refine LeO.ite ?_ ?_)
    | (with_reducible refine LeO.bind ?_ (fun _ => ?_))
    | exact ih0 _ _ _ _ _ _ _
    | exact spec_hoNeeds.mono _ _ _
    | exact LeO.none _
    | refine LeO.ite ?_ ?_
    | refine LeO.bind ?_ (fun _ => ?_)
theorem spec_liPart.mono : ∀ a0 a1 k, LeO (spec_liPart.f k a0 a1) (spec_liPart.f (k + 1) a0 a1) := by
 intro a0 a1 k
 have ih0 := spec_liPart.mono_l k
 unfold spec_liPart.f
 repeat' first
  | (with_reducible exact ih0 _ _ _ _ _ _ _)
  | (with_reducible exact spec_hoNeeds.mono _ _ _)
  | (with_reducible exact LeO.refl _)
  | (with_reducible exact LeO.none _)
  | (with_reducible refine LeO.ite ?_ ?_)
  | (with_reducible refine LeO.bind ?_ (fun _ => ?_))
  | exact ih0 _ _ _ _ _ _ _
  | exact spec_hoNeeds.mono _ _ _
  | exact LeO.none _
  | refine LeO.ite ?_ ?_
  | refine LeO.bind ?_ (fun _ => ?_)
set_option maxHeartbeats 8000000 in
set_option maxRecDepth 100000 in
theorem spec_liPart.calls (k : Nat) (A0 : Option Addr) (c0 : Nat) (l0 : List (S45)) (a1 : Int) (r : Bool) (w : World) (hr0 : Kd.C k45 w A0 l0.length l0) (hc0 : l0.length ≤ c0) (h : spec_liPart.f k l0 a1 = some r) :
  Calls Try.prog 75 #[.slice A0 l0.length c0, .int .i64 a1] w fun e w' => e = .returned (.bool r) ∧ Below w.heap.size w w' := by
 have hu45 := Try.underlying45
 have hu43 := Try.underlying43
 have HR0 := Aside0.mk hr0
 have HC0 := Aside0.mk hc0
 clear hr0 hc0
 have HB := Aside0.mk (Below.refl w.heap.size w)
 have H : (if 0 ≤ a1 then (if a1 < (l0.length : Int) then ((spec_l1In.f ((rd_T45 l0 a1).f0) (-1) (wrap64 (a1 - 1))).bind fun t124 => (if t124 = true then (if ((rd_T45 l0 a1).f0) ≥ 0 then (if 0 ≤ ((rd_T45 l0 a1).f0) then (if ((rd_T45 l0 a1).f0) < (l0.length : Int) then (if ((rd_T45 l0 ((rd_T45 l0 a1).f0)).f3) > 0 then (spec_liPart.j0 k true ((rd_T45 l0 a1).f0) ((rd_T45 l0 a1).f1.f0) ((rd_T45 l0 a1).f1.f1) ((rd_T45 l0 a1).f2) ((rd_T45 l0 a1).f3) ((rd_T45 l0 a1).f4)) else ((spec_hoOne.f ((rd_T45 l0 a1).f1.f0) ((rd_T45 l0 a1).f1.f1)).bind fun t126 => (if t126 = true then ((spec_l1In.f ((rd_T45 l0 a1).f2) (-500) 500).bind fun t127 => (spec_liPart.j0 k (!t127) ((rd_T45 l0 a1).f0) ((rd_T45 l0 a1).f1.f0) ((rd_T45 l0 a1).f1.f1) ((rd_T45 l0 a1).f2) ((rd_T45 l0 a1).f3) ((rd_T45 l0 a1).f4))) else (spec_liPart.j0 k true ((rd_T45 l0 a1).f0) ((rd_T45 l0 a1).f1.f0) ((rd_T45 l0 a1).f1.f1) ((rd_T45 l0 a1).f2) ((rd_T45 l0 a1).f3) ((rd_T45 l0 a1).f4))))) else (none)) else (none)) else ((spec_hoOne.f ((rd_T45 l0 a1).f1.f0) ((rd_T45 l0 a1).f1.f1)).bind fun t128 => (if t128 = true then ((spec_l1In.f ((rd_T45 l0 a1).f2) (-500) 500).bind fun t129 => (spec_liPart.j0 k (!t129) ((rd_T45 l0 a1).f0) ((rd_T45 l0 a1).f1.f0) ((rd_T45 l0 a1).f1.f1) ((rd_T45 l0 a1).f2) ((rd_T45 l0 a1).f3) ((rd_T45 l0 a1).f4))) else (spec_liPart.j0 k true ((rd_T45 l0 a1).f0) ((rd_T45 l0 a1).f1.f0) ((rd_T45 l0 a1).f1.f1) ((rd_T45 l0 a1).f2) ((rd_T45 l0 a1).f3) ((rd_T45 l0 a1).f4))))) else (spec_liPart.j0 k true ((rd_T45 l0 a1).f0) ((rd_T45 l0 a1).f1.f0) ((rd_T45 l0 a1).f1.f1) ((rd_T45 l0 a1).f2) ((rd_T45 l0 a1).f3) ((rd_T45 l0 a1).f4)))) else (none)) else (none)) = some r := h
 clear h
 by_cases c3 : 0 ≤ a1
 case neg =>
  rw [if_neg c3] at H
  exact absurd H (by simp)
 rw [if_pos c3] at H
 have c3b0 : decide (0 ≤ a1) = true := decide_eq_true c3
 clear c3
 by_cases c4 : a1 < (l0.length : Int)
 case neg =>
  rw [if_neg c4] at H
  exact absurd H (by simp)
 rw [if_pos c4] at H
 have c4b0 : decide (a1 < (l0.length : Int)) = true := decide_eq_true c4
 clear c4
 have HC5 := Aside0.mk H
 clear H
 have p122 : 0 ≤ (a1 : Int) := of_decide_eq_true (by first | (with_reducible assumption) | assumption)
 have q122 : a1 < (l0.length : Int) := of_decide_eq_true (by first | (with_reducible assumption) | assumption)
 obtain ⟨ad122, e122, hx122_0, hx122_1, hx122_2, hx122_3, hx122_4, hx122_5⟩ := at_T45 HR0.out a1 p122 q122
 cases e122
 replace p122 := eq_true p122
 replace q122 := eq_true q122
 go_enter Try.func75, Try.ntmps75
 go_upto_region 2 with (first | ((with_reducible refine gate_dst (N := 5) rfl ?_); refine box_event ?hg (N := 5) ?hd (cs := #[.int .i64 0, .int .i64 0, .int .i64 0, .int .i64 0, .int .i64 0, .int .i64 0]) (t := 45) ?hr ?_; (case hd => rfl); (case hg => rfl); (case hr => first | (go_simp; done) | (go_simp; rfl)); intro gb123 hg w6 hbox hb; have n0_ := Aside0.mk (below_step (by repeat (first | (with_reducible first | exact HB.out | apply below_alloc | apply pw_below_drewN | apply below_drew1) | exact HB.out)) hb); have n1_ := Aside0.mk (hbox); have n2_ := Aside0.mk ((by rw [hg]; exact (below_size (by repeat (first | (with_reducible first | exact HB.out | apply below_alloc | apply pw_below_drewN | apply below_drew1) | exact HB.out))) : w.heap.size ≤ gb123)); have n3_ := Aside0.mk ((by rw [hg]; exact (below_size (by repeat (first | (with_reducible first | exact HB.out | apply below_alloc | apply pw_below_drewN | apply below_drew1) | exact HB.out))) : w.heap.size ≤ gb123)); clear HB; have HB := n0_; have BK123 := n1_; have GW123 := n2_; have GE123 := n3_; clear n0_ n1_ n2_ n3_; clear hb hbox hg; have hcz7_0 : w6.cell? ⟨gb123, 0, none⟩ = some (.int .i64 0) := (blk_cell BK123.out 0).trans rfl; have hcz7_1 : w6.cell? ⟨gb123, 1, none⟩ = some (.int .i64 0) := (blk_cell BK123.out 1).trans rfl; have hcz7_2 : w6.cell? ⟨gb123, 2, none⟩ = some (.int .i64 0) := (blk_cell BK123.out 2).trans rfl; have hcz7_3 : w6.cell? ⟨gb123, 3, none⟩ = some (.int .i64 0) := (blk_cell BK123.out 3).trans rfl; have hcz7_4 : w6.cell? ⟨gb123, 4, none⟩ = some (.int .i64 0) := (blk_cell BK123.out 4).trans rfl; have hcz7_5 : w6.cell? ⟨gb123, 5, none⟩ = some (.int .i64 0) := (blk_cell BK123.out 5).trans rfl; have hfz7_0 := blk_frozen BK123.out 0; have hfz7_1 := blk_frozen BK123.out 1; have hfz7_2 := blk_frozen BK123.out 2; have hfz7_3 := blk_frozen BK123.out 3; have hfz7_4 := blk_frozen BK123.out 4; have hfz7_5 := blk_frozen BK123.out 5))
 (try simp only [Act.put, List.setIfInBounds_toArray, List.set_cons_zero, List.set_cons_succ])
 go_cut [43] (fun v43 wc => ∃ (kq : Nat) (x43_4 : Bool), v43 = .bool x43_4 ∧ Aside0 (spec_liPart.j0 kq x43_4 ((rd_T45 l0 a1).f0) ((rd_T45 l0 a1).f1.f0) ((rd_T45 l0 a1).f1.f1) ((rd_T45 l0 a1).f2) ((rd_T45 l0 a1).f3) ((rd_T45 l0 a1).f4) = some r) ∧ Aside0 (kq ≤ k) ∧ Aside0 (wc.heap[gb123]? = some (.cells #[.int .i64 ((rd_T45 l0 a1).f0), .int .i64 ((rd_T45 l0 a1).f1.f0), .int .i64 ((rd_T45 l0 a1).f1.f1), .int .i64 ((rd_T45 l0 a1).f2), .int .i64 ((rd_T45 l0 a1).f3), .int .i64 ((rd_T45 l0 a1).f4)] 45 (0, 0))) ∧ Aside0 (Below w.heap.size w wc))
 case first =>
  have H := HC5.out
  clear HC5
  replace H := Option.bind_eq_some_iff.mp H
  obtain ⟨t124, A80, H⟩ := H
  replace H : (if t124 = true then (if ((rd_T45 l0 a1).f0) ≥ 0 then (if 0 ≤ ((rd_T45 l0 a1).f0) then (if ((rd_T45 l0 a1).f0) < (l0.length : Int) then (if ((rd_T45 l0 ((rd_T45 l0 a1).f0)).f3) > 0 then (spec_liPart.j0 k true ((rd_T45 l0 a1).f0) ((rd_T45 l0 a1).f1.f0) ((rd_T45 l0 a1).f1.f1) ((rd_T45 l0 a1).f2) ((rd_T45 l0 a1).f3) ((rd_T45 l0 a1).f4)) else ((spec_hoOne.f ((rd_T45 l0 a1).f1.f0) ((rd_T45 l0 a1).f1.f1)).bind fun t126 => (if t126 = true then ((spec_l1In.f ((rd_T45 l0 a1).f2) (-500) 500).bind fun t127 => (spec_liPart.j0 k (!t127) ((rd_T45 l0 a1).f0) ((rd_T45 l0 a1).f1.f0) ((rd_T45 l0 a1).f1.f1) ((rd_T45 l0 a1).f2) ((rd_T45 l0 a1).f3) ((rd_T45 l0 a1).f4))) else (spec_liPart.j0 k true ((rd_T45 l0 a1).f0) ((rd_T45 l0 a1).f1.f0) ((rd_T45 l0 a1).f1.f1) ((rd_T45 l0 a1).f2) ((rd_T45 l0 a1).f3) ((rd_T45 l0 a1).f4))))) else (none)) else (none)) else ((spec_hoOne.f ((rd_T45 l0 a1).f1.f0) ((rd_T45 l0 a1).f1.f1)).bind fun t128 => (if t128 = true then ((spec_l1In.f ((rd_T45 l0 a1).f2) (-500) 500).bind fun t129 => (spec_liPart.j0 k (!t129) ((rd_T45 l0 a1).f0) ((rd_T45 l0 a1).f1.f0) ((rd_T45 l0 a1).f1.f1) ((rd_T45 l0 a1).f2) ((rd_T45 l0 a1).f3) ((rd_T45 l0 a1).f4))) else (spec_liPart.j0 k true ((rd_T45 l0 a1).f0) ((rd_T45 l0 a1).f1.f0) ((rd_T45 l0 a1).f1.f1) ((rd_T45 l0 a1).f2) ((rd_T45 l0 a1).f3) ((rd_T45 l0 a1).f4))))) else (spec_liPart.j0 k true ((rd_T45 l0 a1).f0) ((rd_T45 l0 a1).f1.f0) ((rd_T45 l0 a1).f1.f1) ((rd_T45 l0 a1).f2) ((rd_T45 l0 a1).f3) ((rd_T45 l0 a1).f4))) = some r := H
  have A8 := Aside0.mk A80
  clear A80
  by_cases c9 : t124 = true
  case neg =>
   replace c9 := Bool.eq_false_iff.mpr c9
   subst c9
   have H1 : (spec_liPart.j0 k true ((rd_T45 l0 a1).f0) ((rd_T45 l0 a1).f1.f0) ((rd_T45 l0 a1).f1.f1) ((rd_T45 l0 a1).f2) ((rd_T45 l0 a1).f3) ((rd_T45 l0 a1).f4)) = some r := by rw [if_neg (show ¬ (false = true) by decide)] at H; exact H
   clear H
   have H := H1
   clear H1
   have H' := Aside0.mk H
   clear H
   have hcz31_0 : w6.cell? ⟨gb123, 0, none⟩ = some (.int .i64 0) := (blk_cell BK123.out 0).trans rfl
   have hcz31_1 : w6.cell? ⟨gb123, 1, none⟩ = some (.int .i64 0) := (blk_cell BK123.out 1).trans rfl
   have hcz31_2 : w6.cell? ⟨gb123, 2, none⟩ = some (.int .i64 0) := (blk_cell BK123.out 2).trans rfl
   have hcz31_3 : w6.cell? ⟨gb123, 3, none⟩ = some (.int .i64 0) := (blk_cell BK123.out 3).trans rfl
   have hcz31_4 : w6.cell? ⟨gb123, 4, none⟩ = some (.int .i64 0) := (blk_cell BK123.out 4).trans rfl
   have hcz31_5 : w6.cell? ⟨gb123, 5, none⟩ = some (.int .i64 0) := (blk_cell BK123.out 5).trans rfl
   have hfz31_0 := blk_frozen BK123.out 0
   have hfz31_1 := blk_frozen BK123.out 1
   have hfz31_2 := blk_frozen BK123.out 2
   have hfz31_3 := blk_frozen BK123.out 3
   have hfz31_4 := blk_frozen BK123.out 4
   have hfz31_5 := blk_frozen BK123.out 5
   go_wp2_with (first | ((with_reducible refine gate_callee (f := 67) rfl ?_); refine goesL_ (some 16) rfl rfl Try.func67 (by kernel_rfl) rfl #[.int .i64 ((rd_T45 l0 a1).f0), .int .i64 (-1), .int .i64 (wrap64 (a1 - 1))] rfl (by (try simp only [List.map_toArray, List.map_cons, List.map_nil]); first | done | rfl | (simp only [List.length_drop, List.length_take]; rfl)) ?_; (with_reducible refine (spec_l1In.calls ((rd_T45 l0 a1).f0) (-1) (wrap64 (a1 - 1)) false _ A8.out).mono ?_); rintro e w' ⟨rfl, ⟨nd, rfl⟩⟩; refine ⟨_, rfl, ?_⟩))
   go_meet
   case rel => exact ⟨_, (true), (by first | rfl | (simp; done) | (simp [*]; done)), H', ⟨by first | omega | exact Nat.le_refl _⟩, ⟨by (with_reducible repeat (first | refine blk_drewN ?_ _ | refine blk_drew ?_ | refine blk_alloc ?_ _)); refine blk_put (cs := #[.int .i64 ((rd_T45 l0 a1).f0), .int .i64 ((rd_T45 l0 a1).f1.f0), .int .i64 ((rd_T45 l0 a1).f1.f1), .int .i64 ((rd_T45 l0 a1).f2), .int .i64 ((rd_T45 l0 a1).f3), .int .i64 0]) ?_ 5 _ rfl; (with_reducible repeat (first | refine blk_drewN ?_ _ | refine blk_drew ?_ | refine blk_alloc ?_ _)); refine blk_put (cs := #[.int .i64 ((rd_T45 l0 a1).f0), .int .i64 ((rd_T45 l0 a1).f1.f0), .int .i64 ((rd_T45 l0 a1).f1.f1), .int .i64 ((rd_T45 l0 a1).f2), .int .i64 0, .int .i64 0]) ?_ 4 _ rfl; (with_reducible repeat (first | refine blk_drewN ?_ _ | refine blk_drew ?_ | refine blk_alloc ?_ _)); refine blk_put (cs := #[.int .i64 ((rd_T45 l0 a1).f0), .int .i64 ((rd_T45 l0 a1).f1.f0), .int .i64 ((rd_T45 l0 a1).f1.f1), .int .i64 0, .int .i64 0, .int .i64 0]) ?_ 3 _ rfl; (with_reducible repeat (first | refine blk_drewN ?_ _ | refine blk_drew ?_ | refine blk_alloc ?_ _)); refine blk_put (cs := #[.int .i64 ((rd_T45 l0 a1).f0), .int .i64 ((rd_T45 l0 a1).f1.f0), .int .i64 0, .int .i64 0, .int .i64 0, .int .i64 0]) ?_ 2 _ rfl; (with_reducible repeat (first | refine blk_drewN ?_ _ | refine blk_drew ?_ | refine blk_alloc ?_ _)); refine blk_put (cs := #[.int .i64 ((rd_T45 l0 a1).f0), .int .i64 0, .int .i64 0, .int .i64 0, .int .i64 0, .int .i64 0]) ?_ 1 _ rfl; (with_reducible repeat (first | refine blk_drewN ?_ _ | refine blk_drew ?_ | refine blk_alloc ?_ _)); refine blk_put (cs := #[.int .i64 0, .int .i64 0, .int .i64 0, .int .i64 0, .int .i64 0, .int .i64 0]) ?_ 0 _ rfl; (with_reducible repeat (first | refine blk_drewN ?_ _ | refine blk_drew ?_ | refine blk_alloc ?_ _)); exact BK123.out⟩, ⟨by repeat (first | (with_reducible first | exact HB.out | apply below_alloc | apply pw_below_drewN | apply below_drew1 | refine below_set ?_ GE123.out) | exact HB.out)⟩⟩
  subst c9
  have H1 : (if ((rd_T45 l0 a1).f0) ≥ 0 then (if 0 ≤ ((rd_T45 l0 a1).f0) then (if ((rd_T45 l0 a1).f0) < (l0.length : Int) then (if ((rd_T45 l0 ((rd_T45 l0 a1).f0)).f3) > 0 then (spec_liPart.j0 k true ((rd_T45 l0 a1).f0) ((rd_T45 l0 a1).f1.f0) ((rd_T45 l0 a1).f1.f1) ((rd_T45 l0 a1).f2) ((rd_T45 l0 a1).f3) ((rd_T45 l0 a1).f4)) else ((spec_hoOne.f ((rd_T45 l0 a1).f1.f0) ((rd_T45 l0 a1).f1.f1)).bind fun t126 => (if t126 = true then ((spec_l1In.f ((rd_T45 l0 a1).f2) (-500) 500).bind fun t127 => (spec_liPart.j0 k (!t127) ((rd_T45 l0 a1).f0) ((rd_T45 l0 a1).f1.f0) ((rd_T45 l0 a1).f1.f1) ((rd_T45 l0 a1).f2) ((rd_T45 l0 a1).f3) ((rd_T45 l0 a1).f4))) else (spec_liPart.j0 k true ((rd_T45 l0 a1).f0) ((rd_T45 l0 a1).f1.f0) ((rd_T45 l0 a1).f1.f1) ((rd_T45 l0 a1).f2) ((rd_T45 l0 a1).f3) ((rd_T45 l0 a1).f4))))) else (none)) else (none)) else ((spec_hoOne.f ((rd_T45 l0 a1).f1.f0) ((rd_T45 l0 a1).f1.f1)).bind fun t128 => (if t128 = true then ((spec_l1In.f ((rd_T45 l0 a1).f2) (-500) 500).bind fun t129 => (spec_liPart.j0 k (!t129) ((rd_T45 l0 a1).f0) ((rd_T45 l0 a1).f1.f0) ((rd_T45 l0 a1).f1.f1) ((rd_T45 l0 a1).f2) ((rd_T45 l0 a1).f3) ((rd_T45 l0 a1).f4))) else (spec_liPart.j0 k true ((rd_T45 l0 a1).f0) ((rd_T45 l0 a1).f1.f0) ((rd_T45 l0 a1).f1.f1) ((rd_T45 l0 a1).f2) ((rd_T45 l0 a1).f3) ((rd_T45 l0 a1).f4))))) = some r := by rw [if_pos rfl] at H; exact H
  clear H
  have H := H1
  clear H1
  by_cases c10 : ((rd_T45 l0 a1).f0) ≥ 0
  case neg =>
   rw [if_neg c10] at H
   have c10b0 : decide (0 ≤ ((rd_T45 l0 a1).f0)) = false := decide_eq_false c10
   clear c10
   (first | rw [c10b0] | (simp only [i64_w, i32_w]; rw [c10b0]) | skip)
   replace H := Option.bind_eq_some_iff.mp H
   obtain ⟨t128, A230, H⟩ := H
   replace H : (if t128 = true then ((spec_l1In.f ((rd_T45 l0 a1).f2) (-500) 500).bind fun t129 => (spec_liPart.j0 k (!t129) ((rd_T45 l0 a1).f0) ((rd_T45 l0 a1).f1.f0) ((rd_T45 l0 a1).f1.f1) ((rd_T45 l0 a1).f2) ((rd_T45 l0 a1).f3) ((rd_T45 l0 a1).f4))) else (spec_liPart.j0 k true ((rd_T45 l0 a1).f0) ((rd_T45 l0 a1).f1.f0) ((rd_T45 l0 a1).f1.f1) ((rd_T45 l0 a1).f2) ((rd_T45 l0 a1).f3) ((rd_T45 l0 a1).f4))) = some r := H
   have A23 := Aside0.mk A230
   clear A230
   by_cases c24 : t128 = true
   case neg =>
    replace c24 := Bool.eq_false_iff.mpr c24
    subst c24
    have H1 : (spec_liPart.j0 k true ((rd_T45 l0 a1).f0) ((rd_T45 l0 a1).f1.f0) ((rd_T45 l0 a1).f1.f1) ((rd_T45 l0 a1).f2) ((rd_T45 l0 a1).f3) ((rd_T45 l0 a1).f4)) = some r := by rw [if_neg (show ¬ (false = true) by decide)] at H; exact H
    clear H
    have H := H1
    clear H1
    have H' := Aside0.mk H
    clear H
    have hcz29_0 : w6.cell? ⟨gb123, 0, none⟩ = some (.int .i64 0) := (blk_cell BK123.out 0).trans rfl
    have hcz29_1 : w6.cell? ⟨gb123, 1, none⟩ = some (.int .i64 0) := (blk_cell BK123.out 1).trans rfl
    have hcz29_2 : w6.cell? ⟨gb123, 2, none⟩ = some (.int .i64 0) := (blk_cell BK123.out 2).trans rfl
    have hcz29_3 : w6.cell? ⟨gb123, 3, none⟩ = some (.int .i64 0) := (blk_cell BK123.out 3).trans rfl
    have hcz29_4 : w6.cell? ⟨gb123, 4, none⟩ = some (.int .i64 0) := (blk_cell BK123.out 4).trans rfl
    have hcz29_5 : w6.cell? ⟨gb123, 5, none⟩ = some (.int .i64 0) := (blk_cell BK123.out 5).trans rfl
    have hfz29_0 := blk_frozen BK123.out 0
    have hfz29_1 := blk_frozen BK123.out 1
    have hfz29_2 := blk_frozen BK123.out 2
    have hfz29_3 := blk_frozen BK123.out 3
    have hfz29_4 := blk_frozen BK123.out 4
    have hfz29_5 := blk_frozen BK123.out 5
    go_wp2_with (first | ((with_reducible refine gate_callee (f := 67) rfl ?_); refine goesL_ (some 16) rfl rfl Try.func67 (by kernel_rfl) rfl #[.int .i64 ((rd_T45 l0 a1).f0), .int .i64 (-1), .int .i64 (wrap64 (a1 - 1))] rfl (by (try simp only [List.map_toArray, List.map_cons, List.map_nil]); first | done | rfl | (simp only [List.length_drop, List.length_take]; rfl)) ?_; (with_reducible refine (spec_l1In.calls ((rd_T45 l0 a1).f0) (-1) (wrap64 (a1 - 1)) true _ A8.out).mono ?_); rintro e w' ⟨rfl, ⟨nd, rfl⟩⟩; refine ⟨_, rfl, ?_⟩) | (go_at_call 72; (with_reducible refine (spec_hoOne.calls ((rd_T45 l0 a1).f1.f0) ((rd_T45 l0 a1).f1.f1) false _ A23.out).mono ?_); rintro e w30 ⟨rfl, hb⟩; have n0_ := Aside0.mk (blk_below (g := gb123) (o := .cells #[.int .i64 ((rd_T45 l0 a1).f0), .int .i64 ((rd_T45 l0 a1).f1.f0), .int .i64 ((rd_T45 l0 a1).f1.f1), .int .i64 ((rd_T45 l0 a1).f2), .int .i64 ((rd_T45 l0 a1).f3), .int .i64 ((rd_T45 l0 a1).f4)] 45 (0, 0)) (by (with_reducible repeat (first | refine blk_drewN ?_ _ | refine blk_drew ?_ | refine blk_alloc ?_ _)); refine blk_put (cs := #[.int .i64 ((rd_T45 l0 a1).f0), .int .i64 ((rd_T45 l0 a1).f1.f0), .int .i64 ((rd_T45 l0 a1).f1.f1), .int .i64 ((rd_T45 l0 a1).f2), .int .i64 ((rd_T45 l0 a1).f3), .int .i64 0]) ?_ 5 _ rfl; (with_reducible repeat (first | refine blk_drewN ?_ _ | refine blk_drew ?_ | refine blk_alloc ?_ _)); refine blk_put (cs := #[.int .i64 ((rd_T45 l0 a1).f0), .int .i64 ((rd_T45 l0 a1).f1.f0), .int .i64 ((rd_T45 l0 a1).f1.f1), .int .i64 ((rd_T45 l0 a1).f2), .int .i64 0, .int .i64 0]) ?_ 4 _ rfl; (with_reducible repeat (first | refine blk_drewN ?_ _ | refine blk_drew ?_ | refine blk_alloc ?_ _)); refine blk_put (cs := #[.int .i64 ((rd_T45 l0 a1).f0), .int .i64 ((rd_T45 l0 a1).f1.f0), .int .i64 ((rd_T45 l0 a1).f1.f1), .int .i64 0, .int .i64 0, .int .i64 0]) ?_ 3 _ rfl; (with_reducible repeat (first | refine blk_drewN ?_ _ | refine blk_drew ?_ | refine blk_alloc ?_ _)); refine blk_put (cs := #[.int .i64 ((rd_T45 l0 a1).f0), .int .i64 ((rd_T45 l0 a1).f1.f0), .int .i64 0, .int .i64 0, .int .i64 0, .int .i64 0]) ?_ 2 _ rfl; (with_reducible repeat (first | refine blk_drewN ?_ _ | refine blk_drew ?_ | refine blk_alloc ?_ _)); refine blk_put (cs := #[.int .i64 ((rd_T45 l0 a1).f0), .int .i64 0, .int .i64 0, .int .i64 0, .int .i64 0, .int .i64 0]) ?_ 1 _ rfl; (with_reducible repeat (first | refine blk_drewN ?_ _ | refine blk_drew ?_ | refine blk_alloc ?_ _)); refine blk_put (cs := #[.int .i64 0, .int .i64 0, .int .i64 0, .int .i64 0, .int .i64 0, .int .i64 0]) ?_ 0 _ rfl; (with_reducible repeat (first | refine blk_drewN ?_ _ | refine blk_drew ?_ | refine blk_alloc ?_ _)); exact BK123.out) hb); have n1_ := Aside0.mk (below_step (by repeat (first | (with_reducible first | exact HB.out | apply below_alloc | apply pw_below_drewN | apply below_drew1 | refine below_set ?_ GE123.out) | exact HB.out)) hb); clear BK123; clear HB; have BK123 := n0_; have HB := n1_; clear n0_ n1_; (try clear hb); (try clear hb2); (try clear hk); (try clear hi)))
    go_meet
    case rel => exact ⟨_, (true), (by first | rfl | (simp; done) | (simp [*]; done)), H', ⟨by first | omega | exact Nat.le_refl _⟩, ⟨by (with_reducible repeat (first | refine blk_drewN ?_ _ | refine blk_drew ?_ | refine blk_alloc ?_ _)); exact BK123.out⟩, ⟨by repeat (first | (with_reducible first | exact HB.out | apply below_alloc | apply pw_below_drewN | apply below_drew1 | refine below_set ?_ GE123.out) | exact HB.out)⟩⟩
   subst c24
   have H1 : ((spec_l1In.f ((rd_T45 l0 a1).f2) (-500) 500).bind fun t129 => (spec_liPart.j0 k (!t129) ((rd_T45 l0 a1).f0) ((rd_T45 l0 a1).f1.f0) ((rd_T45 l0 a1).f1.f1) ((rd_T45 l0 a1).f2) ((rd_T45 l0 a1).f3) ((rd_T45 l0 a1).f4))) = some r := by rw [if_pos rfl] at H; exact H
   clear H
   have H := H1
   clear H1
   replace H := Option.bind_eq_some_iff.mp H
   obtain ⟨t129, A250, H⟩ := H
   replace H : (spec_liPart.j0 k (!t129) ((rd_T45 l0 a1).f0) ((rd_T45 l0 a1).f1.f0) ((rd_T45 l0 a1).f1.f1) ((rd_T45 l0 a1).f2) ((rd_T45 l0 a1).f3) ((rd_T45 l0 a1).f4)) = some r := H
   have A25 := Aside0.mk A250
   clear A250
   have H' := Aside0.mk H
   clear H
   have hcz26_0 : w6.cell? ⟨gb123, 0, none⟩ = some (.int .i64 0) := (blk_cell BK123.out 0).trans rfl
   have hcz26_1 : w6.cell? ⟨gb123, 1, none⟩ = some (.int .i64 0) := (blk_cell BK123.out 1).trans rfl
   have hcz26_2 : w6.cell? ⟨gb123, 2, none⟩ = some (.int .i64 0) := (blk_cell BK123.out 2).trans rfl
   have hcz26_3 : w6.cell? ⟨gb123, 3, none⟩ = some (.int .i64 0) := (blk_cell BK123.out 3).trans rfl
   have hcz26_4 : w6.cell? ⟨gb123, 4, none⟩ = some (.int .i64 0) := (blk_cell BK123.out 4).trans rfl
   have hcz26_5 : w6.cell? ⟨gb123, 5, none⟩ = some (.int .i64 0) := (blk_cell BK123.out 5).trans rfl
   have hfz26_0 := blk_frozen BK123.out 0
   have hfz26_1 := blk_frozen BK123.out 1
   have hfz26_2 := blk_frozen BK123.out 2
   have hfz26_3 := blk_frozen BK123.out 3
   have hfz26_4 := blk_frozen BK123.out 4
   have hfz26_5 := blk_frozen BK123.out 5
   go_wp2_with (first | ((with_reducible refine gate_callee (f := 67) rfl ?_); refine goesL_ (some 16) rfl rfl Try.func67 (by kernel_rfl) rfl #[.int .i64 ((rd_T45 l0 a1).f0), .int .i64 (-1), .int .i64 (wrap64 (a1 - 1))] rfl (by (try simp only [List.map_toArray, List.map_cons, List.map_nil]); first | done | rfl | (simp only [List.length_drop, List.length_take]; rfl)) ?_; (with_reducible refine (spec_l1In.calls ((rd_T45 l0 a1).f0) (-1) (wrap64 (a1 - 1)) true _ A8.out).mono ?_); rintro e w' ⟨rfl, ⟨nd, rfl⟩⟩; refine ⟨_, rfl, ?_⟩) | (go_at_call 72; (with_reducible refine (spec_hoOne.calls ((rd_T45 l0 a1).f1.f0) ((rd_T45 l0 a1).f1.f1) true _ A23.out).mono ?_); rintro e w27 ⟨rfl, hb⟩; have n0_ := Aside0.mk (blk_below (g := gb123) (o := .cells #[.int .i64 ((rd_T45 l0 a1).f0), .int .i64 ((rd_T45 l0 a1).f1.f0), .int .i64 ((rd_T45 l0 a1).f1.f1), .int .i64 ((rd_T45 l0 a1).f2), .int .i64 ((rd_T45 l0 a1).f3), .int .i64 ((rd_T45 l0 a1).f4)] 45 (0, 0)) (by (with_reducible repeat (first | refine blk_drewN ?_ _ | refine blk_drew ?_ | refine blk_alloc ?_ _)); refine blk_put (cs := #[.int .i64 ((rd_T45 l0 a1).f0), .int .i64 ((rd_T45 l0 a1).f1.f0), .int .i64 ((rd_T45 l0 a1).f1.f1), .int .i64 ((rd_T45 l0 a1).f2), .int .i64 ((rd_T45 l0 a1).f3), .int .i64 0]) ?_ 5 _ rfl; (with_reducible repeat (first | refine blk_drewN ?_ _ | refine blk_drew ?_ | refine blk_alloc ?_ _)); refine blk_put (cs := #[.int .i64 ((rd_T45 l0 a1).f0), .int .i64 ((rd_T45 l0 a1).f1.f0), .int .i64 ((rd_T45 l0 a1).f1.f1), .int .i64 ((rd_T45 l0 a1).f2), .int .i64 0, .int .i64 0]) ?_ 4 _ rfl; (with_reducible repeat (first | refine blk_drewN ?_ _ | refine blk_drew ?_ | refine blk_alloc ?_ _)); refine blk_put (cs := #[.int .i64 ((rd_T45 l0 a1).f0), .int .i64 ((rd_T45 l0 a1).f1.f0), .int .i64 ((rd_T45 l0 a1).f1.f1), .int .i64 0, .int .i64 0, .int .i64 0]) ?_ 3 _ rfl; (with_reducible repeat (first | refine blk_drewN ?_ _ | refine blk_drew ?_ | refine blk_alloc ?_ _)); refine blk_put (cs := #[.int .i64 ((rd_T45 l0 a1).f0), .int .i64 ((rd_T45 l0 a1).f1.f0), .int .i64 0, .int .i64 0, .int .i64 0, .int .i64 0]) ?_ 2 _ rfl; (with_reducible repeat (first | refine blk_drewN ?_ _ | refine blk_drew ?_ | refine blk_alloc ?_ _)); refine blk_put (cs := #[.int .i64 ((rd_T45 l0 a1).f0), .int .i64 0, .int .i64 0, .int .i64 0, .int .i64 0, .int .i64 0]) ?_ 1 _ rfl; (with_reducible repeat (first | refine blk_drewN ?_ _ | refine blk_drew ?_ | refine blk_alloc ?_ _)); refine blk_put (cs := #[.int .i64 0, .int .i64 0, .int .i64 0, .int .i64 0, .int .i64 0, .int .i64 0]) ?_ 0 _ rfl; (with_reducible repeat (first | refine blk_drewN ?_ _ | refine blk_drew ?_ | refine blk_alloc ?_ _)); exact BK123.out) hb); have n1_ := Aside0.mk (below_step (by repeat (first | (with_reducible first | exact HB.out | apply below_alloc | apply pw_below_drewN | apply below_drew1 | refine below_set ?_ GE123.out) | exact HB.out)) hb); clear BK123; clear HB; have BK123 := n0_; have HB := n1_; clear n0_ n1_; (try clear hb); (try clear hb2); (try clear hk); (try clear hi); have hcz28_0 : w27.cell? ⟨gb123, 0, none⟩ = some (.int .i64 ((rd_T45 l0 a1).f0)) := (blk_cell BK123.out 0).trans rfl; have hcz28_1 : w27.cell? ⟨gb123, 1, none⟩ = some (.int .i64 ((rd_T45 l0 a1).f1.f0)) := (blk_cell BK123.out 1).trans rfl; have hcz28_2 : w27.cell? ⟨gb123, 2, none⟩ = some (.int .i64 ((rd_T45 l0 a1).f1.f1)) := (blk_cell BK123.out 2).trans rfl; have hcz28_3 : w27.cell? ⟨gb123, 3, none⟩ = some (.int .i64 ((rd_T45 l0 a1).f2)) := (blk_cell BK123.out 3).trans rfl; have hcz28_4 : w27.cell? ⟨gb123, 4, none⟩ = some (.int .i64 ((rd_T45 l0 a1).f3)) := (blk_cell BK123.out 4).trans rfl; have hcz28_5 : w27.cell? ⟨gb123, 5, none⟩ = some (.int .i64 ((rd_T45 l0 a1).f4)) := (blk_cell BK123.out 5).trans rfl; have hfz28_0 := blk_frozen BK123.out 0; have hfz28_1 := blk_frozen BK123.out 1; have hfz28_2 := blk_frozen BK123.out 2; have hfz28_3 := blk_frozen BK123.out 3; have hfz28_4 := blk_frozen BK123.out 4; have hfz28_5 := blk_frozen BK123.out 5) | (go_at_call 67; (with_reducible refine (spec_l1In.calls ((rd_T45 l0 a1).f2) (-500) 500 t129 _ A25.out).mono ?_); rintro e w' ⟨rfl, ⟨nd, rfl⟩⟩))
   go_meet
   case rel => exact ⟨_, (!t129), (by first | rfl | (simp; done) | (simp [*]; done)), H', ⟨by first | omega | exact Nat.le_refl _⟩, ⟨by (with_reducible repeat (first | refine blk_drewN ?_ _ | refine blk_drew ?_ | refine blk_alloc ?_ _)); exact BK123.out⟩, ⟨by repeat (first | (with_reducible first | exact HB.out | apply below_alloc | apply pw_below_drewN | apply below_drew1 | refine below_set ?_ GE123.out) | exact HB.out)⟩⟩
  rw [if_pos c10] at H
  have c10b0 : decide (0 ≤ ((rd_T45 l0 a1).f0)) = true := decide_eq_true c10
  clear c10
  (first | rw [c10b0] | (simp only [i64_w, i32_w]; rw [c10b0]) | skip)
  by_cases c11 : 0 ≤ ((rd_T45 l0 a1).f0)
  case neg =>
   rw [if_neg c11] at H
   exact absurd H (by simp)
  rw [if_pos c11] at H
  have c11b0 : decide (0 ≤ ((rd_T45 l0 a1).f0)) = true := decide_eq_true c11
  clear c11
  by_cases c12 : ((rd_T45 l0 a1).f0) < (l0.length : Int)
  case neg =>
   rw [if_neg c12] at H
   exact absurd H (by simp)
  rw [if_pos c12] at H
  have c12b0 : decide (((rd_T45 l0 a1).f0) < (l0.length : Int)) = true := decide_eq_true c12
  clear c12
  by_cases c13 : ((rd_T45 l0 ((rd_T45 l0 a1).f0)).f3) > 0
  case neg =>
   rw [if_neg c13] at H
   have c13b0 : decide (0 < ((rd_T45 l0 ((rd_T45 l0 a1).f0)).f3)) = false := decide_eq_false c13
   clear c13
   replace H := Option.bind_eq_some_iff.mp H
   obtain ⟨t126, A150, H⟩ := H
   replace H : (if t126 = true then ((spec_l1In.f ((rd_T45 l0 a1).f2) (-500) 500).bind fun t127 => (spec_liPart.j0 k (!t127) ((rd_T45 l0 a1).f0) ((rd_T45 l0 a1).f1.f0) ((rd_T45 l0 a1).f1.f1) ((rd_T45 l0 a1).f2) ((rd_T45 l0 a1).f3) ((rd_T45 l0 a1).f4))) else (spec_liPart.j0 k true ((rd_T45 l0 a1).f0) ((rd_T45 l0 a1).f1.f0) ((rd_T45 l0 a1).f1.f1) ((rd_T45 l0 a1).f2) ((rd_T45 l0 a1).f3) ((rd_T45 l0 a1).f4))) = some r := H
   have A15 := Aside0.mk A150
   clear A150
   by_cases c16 : t126 = true
   case neg =>
    replace c16 := Bool.eq_false_iff.mpr c16
    subst c16
    have H1 : (spec_liPart.j0 k true ((rd_T45 l0 a1).f0) ((rd_T45 l0 a1).f1.f0) ((rd_T45 l0 a1).f1.f1) ((rd_T45 l0 a1).f2) ((rd_T45 l0 a1).f3) ((rd_T45 l0 a1).f4)) = some r := by rw [if_neg (show ¬ (false = true) by decide)] at H; exact H
    clear H
    have H := H1
    clear H1
    have H' := Aside0.mk H
    clear H
    have hcz21_0 : w6.cell? ⟨gb123, 0, none⟩ = some (.int .i64 0) := (blk_cell BK123.out 0).trans rfl
    have hcz21_1 : w6.cell? ⟨gb123, 1, none⟩ = some (.int .i64 0) := (blk_cell BK123.out 1).trans rfl
    have hcz21_2 : w6.cell? ⟨gb123, 2, none⟩ = some (.int .i64 0) := (blk_cell BK123.out 2).trans rfl
    have hcz21_3 : w6.cell? ⟨gb123, 3, none⟩ = some (.int .i64 0) := (blk_cell BK123.out 3).trans rfl
    have hcz21_4 : w6.cell? ⟨gb123, 4, none⟩ = some (.int .i64 0) := (blk_cell BK123.out 4).trans rfl
    have hcz21_5 : w6.cell? ⟨gb123, 5, none⟩ = some (.int .i64 0) := (blk_cell BK123.out 5).trans rfl
    have hfz21_0 := blk_frozen BK123.out 0
    have hfz21_1 := blk_frozen BK123.out 1
    have hfz21_2 := blk_frozen BK123.out 2
    have hfz21_3 := blk_frozen BK123.out 3
    have hfz21_4 := blk_frozen BK123.out 4
    have hfz21_5 := blk_frozen BK123.out 5
    go_wp2_with (first | ((with_reducible refine gate_callee (f := 67) rfl ?_); refine goesL_ (some 16) rfl rfl Try.func67 (by kernel_rfl) rfl #[.int .i64 ((rd_T45 l0 a1).f0), .int .i64 (-1), .int .i64 (wrap64 (a1 - 1))] rfl (by (try simp only [List.map_toArray, List.map_cons, List.map_nil]); first | done | rfl | (simp only [List.length_drop, List.length_take]; rfl)) ?_; (with_reducible refine (spec_l1In.calls ((rd_T45 l0 a1).f0) (-1) (wrap64 (a1 - 1)) true _ A8.out).mono ?_); rintro e w' ⟨rfl, ⟨nd, rfl⟩⟩; refine ⟨_, rfl, ?_⟩; have p125 : 0 ≤ (((rd_T45 l0 a1).f0) : Int) := of_decide_eq_true (by first | (with_reducible assumption) | assumption); have q125 : ((rd_T45 l0 a1).f0) < (l0.length : Int) := of_decide_eq_true (by first | (with_reducible assumption) | assumption); obtain ⟨ad125, e125, hx125_0, hx125_1, hx125_2, hx125_3, hx125_4, hx125_5⟩ := at_T45 HR0.out ((rd_T45 l0 a1).f0) p125 q125; obtain rfl : ad122 = ad125 := (by injection e125); have hn125_0 : ad122.block ≠ gb123 := Nat.ne_of_lt (Nat.lt_of_lt_of_le (by have := World.block_lt_of_cell? _ _ hx125_0; first | rwa [add_block] at this | exact this) GW123.out); have hn125_1 : ad122.block ≠ gb123 := Nat.ne_of_lt (Nat.lt_of_lt_of_le (by have := World.block_lt_of_cell? _ _ hx125_0; first | rwa [add_block] at this | exact this) GW123.out); have hn125_2 : ad122.block ≠ gb123 := Nat.ne_of_lt (Nat.lt_of_lt_of_le (by have := World.block_lt_of_cell? _ _ hx125_0; first | rwa [add_block] at this | exact this) GW123.out); have hn125_3 : ad122.block ≠ gb123 := Nat.ne_of_lt (Nat.lt_of_lt_of_le (by have := World.block_lt_of_cell? _ _ hx125_0; first | rwa [add_block] at this | exact this) GW123.out); have hn125_4 : ad122.block ≠ gb123 := Nat.ne_of_lt (Nat.lt_of_lt_of_le (by have := World.block_lt_of_cell? _ _ hx125_0; first | rwa [add_block] at this | exact this) GW123.out); have hn125_5 : ad122.block ≠ gb123 := Nat.ne_of_lt (Nat.lt_of_lt_of_le (by have := World.block_lt_of_cell? _ _ hx125_0; first | rwa [add_block] at this | exact this) GW123.out); replace hx125_0 := (HB.out.cell (World.block_lt_of_cell? w _ hx125_0)).trans hx125_0; replace hx125_1 := (HB.out.cell (World.block_lt_of_cell? w _ hx125_1)).trans hx125_1; replace hx125_2 := (HB.out.cell (World.block_lt_of_cell? w _ hx125_2)).trans hx125_2; replace hx125_3 := (HB.out.cell (World.block_lt_of_cell? w _ hx125_3)).trans hx125_3; replace hx125_4 := (HB.out.cell (World.block_lt_of_cell? w _ hx125_4)).trans hx125_4; replace hx125_5 := (HB.out.cell (World.block_lt_of_cell? w _ hx125_5)).trans hx125_5; replace hx125_0 := (cell_far (p := ⟨gb123, 0, none⟩) (by first | (rw [add_block]; exact hn125_0) | (show (Addr.add _ _).block ≠ _; rw [add_block]; exact hn125_0) | exact hn125_0) (.int .i64 ((rd_T45 l0 a1).f0))).trans hx125_0; replace hx125_1 := (cell_far (p := ⟨gb123, 0, none⟩) (by first | (rw [add_block]; exact hn125_0) | (show (Addr.add _ _).block ≠ _; rw [add_block]; exact hn125_0) | exact hn125_0) (.int .i64 ((rd_T45 l0 a1).f0))).trans hx125_1; replace hx125_2 := (cell_far (p := ⟨gb123, 0, none⟩) (by first | (rw [add_block]; exact hn125_0) | (show (Addr.add _ _).block ≠ _; rw [add_block]; exact hn125_0) | exact hn125_0) (.int .i64 ((rd_T45 l0 a1).f0))).trans hx125_2; replace hx125_3 := (cell_far (p := ⟨gb123, 0, none⟩) (by first | (rw [add_block]; exact hn125_0) | (show (Addr.add _ _).block ≠ _; rw [add_block]; exact hn125_0) | exact hn125_0) (.int .i64 ((rd_T45 l0 a1).f0))).trans hx125_3; replace hx125_4 := (cell_far (p := ⟨gb123, 0, none⟩) (by first | (rw [add_block]; exact hn125_0) | (show (Addr.add _ _).block ≠ _; rw [add_block]; exact hn125_0) | exact hn125_0) (.int .i64 ((rd_T45 l0 a1).f0))).trans hx125_4; replace hx125_5 := (cell_far (p := ⟨gb123, 0, none⟩) (by first | (rw [add_block]; exact hn125_0) | (show (Addr.add _ _).block ≠ _; rw [add_block]; exact hn125_0) | exact hn125_0) (.int .i64 ((rd_T45 l0 a1).f0))).trans hx125_5; replace hx125_0 := (cell_far (p := ⟨gb123, 1, none⟩) (by first | (rw [add_block]; exact hn125_1) | (show (Addr.add _ _).block ≠ _; rw [add_block]; exact hn125_1) | exact hn125_1) (.int .i64 ((rd_T45 l0 a1).f1.f0))).trans hx125_0; replace hx125_1 := (cell_far (p := ⟨gb123, 1, none⟩) (by first | (rw [add_block]; exact hn125_1) | (show (Addr.add _ _).block ≠ _; rw [add_block]; exact hn125_1) | exact hn125_1) (.int .i64 ((rd_T45 l0 a1).f1.f0))).trans hx125_1; replace hx125_2 := (cell_far (p := ⟨gb123, 1, none⟩) (by first | (rw [add_block]; exact hn125_1) | (show (Addr.add _ _).block ≠ _; rw [add_block]; exact hn125_1) | exact hn125_1) (.int .i64 ((rd_T45 l0 a1).f1.f0))).trans hx125_2; replace hx125_3 := (cell_far (p := ⟨gb123, 1, none⟩) (by first | (rw [add_block]; exact hn125_1) | (show (Addr.add _ _).block ≠ _; rw [add_block]; exact hn125_1) | exact hn125_1) (.int .i64 ((rd_T45 l0 a1).f1.f0))).trans hx125_3; replace hx125_4 := (cell_far (p := ⟨gb123, 1, none⟩) (by first | (rw [add_block]; exact hn125_1) | (show (Addr.add _ _).block ≠ _; rw [add_block]; exact hn125_1) | exact hn125_1) (.int .i64 ((rd_T45 l0 a1).f1.f0))).trans hx125_4; replace hx125_5 := (cell_far (p := ⟨gb123, 1, none⟩) (by first | (rw [add_block]; exact hn125_1) | (show (Addr.add _ _).block ≠ _; rw [add_block]; exact hn125_1) | exact hn125_1) (.int .i64 ((rd_T45 l0 a1).f1.f0))).trans hx125_5; replace hx125_0 := (cell_far (p := ⟨gb123, 2, none⟩) (by first | (rw [add_block]; exact hn125_2) | (show (Addr.add _ _).block ≠ _; rw [add_block]; exact hn125_2) | exact hn125_2) (.int .i64 ((rd_T45 l0 a1).f1.f1))).trans hx125_0; replace hx125_1 := (cell_far (p := ⟨gb123, 2, none⟩) (by first | (rw [add_block]; exact hn125_2) | (show (Addr.add _ _).block ≠ _; rw [add_block]; exact hn125_2) | exact hn125_2) (.int .i64 ((rd_T45 l0 a1).f1.f1))).trans hx125_1; replace hx125_2 := (cell_far (p := ⟨gb123, 2, none⟩) (by first | (rw [add_block]; exact hn125_2) | (show (Addr.add _ _).block ≠ _; rw [add_block]; exact hn125_2) | exact hn125_2) (.int .i64 ((rd_T45 l0 a1).f1.f1))).trans hx125_2; replace hx125_3 := (cell_far (p := ⟨gb123, 2, none⟩) (by first | (rw [add_block]; exact hn125_2) | (show (Addr.add _ _).block ≠ _; rw [add_block]; exact hn125_2) | exact hn125_2) (.int .i64 ((rd_T45 l0 a1).f1.f1))).trans hx125_3; replace hx125_4 := (cell_far (p := ⟨gb123, 2, none⟩) (by first | (rw [add_block]; exact hn125_2) | (show (Addr.add _ _).block ≠ _; rw [add_block]; exact hn125_2) | exact hn125_2) (.int .i64 ((rd_T45 l0 a1).f1.f1))).trans hx125_4; replace hx125_5 := (cell_far (p := ⟨gb123, 2, none⟩) (by first | (rw [add_block]; exact hn125_2) | (show (Addr.add _ _).block ≠ _; rw [add_block]; exact hn125_2) | exact hn125_2) (.int .i64 ((rd_T45 l0 a1).f1.f1))).trans hx125_5; replace hx125_0 := (cell_far (p := ⟨gb123, 3, none⟩) (by first | (rw [add_block]; exact hn125_3) | (show (Addr.add _ _).block ≠ _; rw [add_block]; exact hn125_3) | exact hn125_3) (.int .i64 ((rd_T45 l0 a1).f2))).trans hx125_0; replace hx125_1 := (cell_far (p := ⟨gb123, 3, none⟩) (by first | (rw [add_block]; exact hn125_3) | (show (Addr.add _ _).block ≠ _; rw [add_block]; exact hn125_3) | exact hn125_3) (.int .i64 ((rd_T45 l0 a1).f2))).trans hx125_1; replace hx125_2 := (cell_far (p := ⟨gb123, 3, none⟩) (by first | (rw [add_block]; exact hn125_3) | (show (Addr.add _ _).block ≠ _; rw [add_block]; exact hn125_3) | exact hn125_3) (.int .i64 ((rd_T45 l0 a1).f2))).trans hx125_2; replace hx125_3 := (cell_far (p := ⟨gb123, 3, none⟩) (by first | (rw [add_block]; exact hn125_3) | (show (Addr.add _ _).block ≠ _; rw [add_block]; exact hn125_3) | exact hn125_3) (.int .i64 ((rd_T45 l0 a1).f2))).trans hx125_3; replace hx125_4 := (cell_far (p := ⟨gb123, 3, none⟩) (by first | (rw [add_block]; exact hn125_3) | (show (Addr.add _ _).block ≠ _; rw [add_block]; exact hn125_3) | exact hn125_3) (.int .i64 ((rd_T45 l0 a1).f2))).trans hx125_4; replace hx125_5 := (cell_far (p := ⟨gb123, 3, none⟩) (by first | (rw [add_block]; exact hn125_3) | (show (Addr.add _ _).block ≠ _; rw [add_block]; exact hn125_3) | exact hn125_3) (.int .i64 ((rd_T45 l0 a1).f2))).trans hx125_5; replace hx125_0 := (cell_far (p := ⟨gb123, 4, none⟩) (by first | (rw [add_block]; exact hn125_4) | (show (Addr.add _ _).block ≠ _; rw [add_block]; exact hn125_4) | exact hn125_4) (.int .i64 ((rd_T45 l0 a1).f3))).trans hx125_0; replace hx125_1 := (cell_far (p := ⟨gb123, 4, none⟩) (by first | (rw [add_block]; exact hn125_4) | (show (Addr.add _ _).block ≠ _; rw [add_block]; exact hn125_4) | exact hn125_4) (.int .i64 ((rd_T45 l0 a1).f3))).trans hx125_1; replace hx125_2 := (cell_far (p := ⟨gb123, 4, none⟩) (by first | (rw [add_block]; exact hn125_4) | (show (Addr.add _ _).block ≠ _; rw [add_block]; exact hn125_4) | exact hn125_4) (.int .i64 ((rd_T45 l0 a1).f3))).trans hx125_2; replace hx125_3 := (cell_far (p := ⟨gb123, 4, none⟩) (by first | (rw [add_block]; exact hn125_4) | (show (Addr.add _ _).block ≠ _; rw [add_block]; exact hn125_4) | exact hn125_4) (.int .i64 ((rd_T45 l0 a1).f3))).trans hx125_3; replace hx125_4 := (cell_far (p := ⟨gb123, 4, none⟩) (by first | (rw [add_block]; exact hn125_4) | (show (Addr.add _ _).block ≠ _; rw [add_block]; exact hn125_4) | exact hn125_4) (.int .i64 ((rd_T45 l0 a1).f3))).trans hx125_4; replace hx125_5 := (cell_far (p := ⟨gb123, 4, none⟩) (by first | (rw [add_block]; exact hn125_4) | (show (Addr.add _ _).block ≠ _; rw [add_block]; exact hn125_4) | exact hn125_4) (.int .i64 ((rd_T45 l0 a1).f3))).trans hx125_5; replace hx125_0 := (cell_far (p := ⟨gb123, 5, none⟩) (by first | (rw [add_block]; exact hn125_5) | (show (Addr.add _ _).block ≠ _; rw [add_block]; exact hn125_5) | exact hn125_5) (.int .i64 ((rd_T45 l0 a1).f4))).trans hx125_0; replace hx125_1 := (cell_far (p := ⟨gb123, 5, none⟩) (by first | (rw [add_block]; exact hn125_5) | (show (Addr.add _ _).block ≠ _; rw [add_block]; exact hn125_5) | exact hn125_5) (.int .i64 ((rd_T45 l0 a1).f4))).trans hx125_1; replace hx125_2 := (cell_far (p := ⟨gb123, 5, none⟩) (by first | (rw [add_block]; exact hn125_5) | (show (Addr.add _ _).block ≠ _; rw [add_block]; exact hn125_5) | exact hn125_5) (.int .i64 ((rd_T45 l0 a1).f4))).trans hx125_2; replace hx125_3 := (cell_far (p := ⟨gb123, 5, none⟩) (by first | (rw [add_block]; exact hn125_5) | (show (Addr.add _ _).block ≠ _; rw [add_block]; exact hn125_5) | exact hn125_5) (.int .i64 ((rd_T45 l0 a1).f4))).trans hx125_3; replace hx125_4 := (cell_far (p := ⟨gb123, 5, none⟩) (by first | (rw [add_block]; exact hn125_5) | (show (Addr.add _ _).block ≠ _; rw [add_block]; exact hn125_5) | exact hn125_5) (.int .i64 ((rd_T45 l0 a1).f4))).trans hx125_4; replace hx125_5 := (cell_far (p := ⟨gb123, 5, none⟩) (by first | (rw [add_block]; exact hn125_5) | (show (Addr.add _ _).block ≠ _; rw [add_block]; exact hn125_5) | exact hn125_5) (.int .i64 ((rd_T45 l0 a1).f4))).trans hx125_5; clear hn125_0; clear hn125_1; clear hn125_2; clear hn125_3; clear hn125_4; clear hn125_5; replace p125 := eq_true p125; replace q125 := eq_true q125) | (go_at_call 72; (with_reducible refine (spec_hoOne.calls ((rd_T45 l0 a1).f1.f0) ((rd_T45 l0 a1).f1.f1) false _ A15.out).mono ?_); rintro e w22 ⟨rfl, hb⟩; have n0_ := Aside0.mk (blk_below (g := gb123) (o := .cells #[.int .i64 ((rd_T45 l0 a1).f0), .int .i64 ((rd_T45 l0 a1).f1.f0), .int .i64 ((rd_T45 l0 a1).f1.f1), .int .i64 ((rd_T45 l0 a1).f2), .int .i64 ((rd_T45 l0 a1).f3), .int .i64 ((rd_T45 l0 a1).f4)] 45 (0, 0)) (by (with_reducible repeat (first | refine blk_drewN ?_ _ | refine blk_drew ?_ | refine blk_alloc ?_ _)); refine blk_put (cs := #[.int .i64 ((rd_T45 l0 a1).f0), .int .i64 ((rd_T45 l0 a1).f1.f0), .int .i64 ((rd_T45 l0 a1).f1.f1), .int .i64 ((rd_T45 l0 a1).f2), .int .i64 ((rd_T45 l0 a1).f3), .int .i64 0]) ?_ 5 _ rfl; (with_reducible repeat (first | refine blk_drewN ?_ _ | refine blk_drew ?_ | refine blk_alloc ?_ _)); refine blk_put (cs := #[.int .i64 ((rd_T45 l0 a1).f0), .int .i64 ((rd_T45 l0 a1).f1.f0), .int .i64 ((rd_T45 l0 a1).f1.f1), .int .i64 ((rd_T45 l0 a1).f2), .int .i64 0, .int .i64 0]) ?_ 4 _ rfl; (with_reducible repeat (first | refine blk_drewN ?_ _ | refine blk_drew ?_ | refine blk_alloc ?_ _)); refine blk_put (cs := #[.int .i64 ((rd_T45 l0 a1).f0), .int .i64 ((rd_T45 l0 a1).f1.f0), .int .i64 ((rd_T45 l0 a1).f1.f1), .int .i64 0, .int .i64 0, .int .i64 0]) ?_ 3 _ rfl; (with_reducible repeat (first | refine blk_drewN ?_ _ | refine blk_drew ?_ | refine blk_alloc ?_ _)); refine blk_put (cs := #[.int .i64 ((rd_T45 l0 a1).f0), .int .i64 ((rd_T45 l0 a1).f1.f0), .int .i64 0, .int .i64 0, .int .i64 0, .int .i64 0]) ?_ 2 _ rfl; (with_reducible repeat (first | refine blk_drewN ?_ _ | refine blk_drew ?_ | refine blk_alloc ?_ _)); refine blk_put (cs := #[.int .i64 ((rd_T45 l0 a1).f0), .int .i64 0, .int .i64 0, .int .i64 0, .int .i64 0, .int .i64 0]) ?_ 1 _ rfl; (with_reducible repeat (first | refine blk_drewN ?_ _ | refine blk_drew ?_ | refine blk_alloc ?_ _)); refine blk_put (cs := #[.int .i64 0, .int .i64 0, .int .i64 0, .int .i64 0, .int .i64 0, .int .i64 0]) ?_ 0 _ rfl; (with_reducible repeat (first | refine blk_drewN ?_ _ | refine blk_drew ?_ | refine blk_alloc ?_ _)); exact BK123.out) hb); have n1_ := Aside0.mk (below_step (by repeat (first | (with_reducible first | exact HB.out | apply below_alloc | apply pw_below_drewN | apply below_drew1 | refine below_set ?_ GE123.out) | exact HB.out)) hb); clear BK123; clear HB; have BK123 := n0_; have HB := n1_; clear n0_ n1_; (try clear hb); (try clear hb2); (try clear hk); (try clear hi)))
    go_meet
    case rel => exact ⟨_, (true), (by first | rfl | (simp; done) | (simp [*]; done)), H', ⟨by first | omega | exact Nat.le_refl _⟩, ⟨by (with_reducible repeat (first | refine blk_drewN ?_ _ | refine blk_drew ?_ | refine blk_alloc ?_ _)); exact BK123.out⟩, ⟨by repeat (first | (with_reducible first | exact HB.out | apply below_alloc | apply pw_below_drewN | apply below_drew1 | refine below_set ?_ GE123.out) | exact HB.out)⟩⟩
   subst c16
   have H1 : ((spec_l1In.f ((rd_T45 l0 a1).f2) (-500) 500).bind fun t127 => (spec_liPart.j0 k (!t127) ((rd_T45 l0 a1).f0) ((rd_T45 l0 a1).f1.f0) ((rd_T45 l0 a1).f1.f1) ((rd_T45 l0 a1).f2) ((rd_T45 l0 a1).f3) ((rd_T45 l0 a1).f4))) = some r := by rw [if_pos rfl] at H; exact H
   clear H
   have H := H1
   clear H1
   replace H := Option.bind_eq_some_iff.mp H
   obtain ⟨t127, A170, H⟩ := H
   replace H : (spec_liPart.j0 k (!t127) ((rd_T45 l0 a1).f0) ((rd_T45 l0 a1).f1.f0) ((rd_T45 l0 a1).f1.f1) ((rd_T45 l0 a1).f2) ((rd_T45 l0 a1).f3) ((rd_T45 l0 a1).f4)) = some r := H
   have A17 := Aside0.mk A170
   clear A170
   have H' := Aside0.mk H
   clear H
   have hcz18_0 : w6.cell? ⟨gb123, 0, none⟩ = some (.int .i64 0) := (blk_cell BK123.out 0).trans rfl
   have hcz18_1 : w6.cell? ⟨gb123, 1, none⟩ = some (.int .i64 0) := (blk_cell BK123.out 1).trans rfl
   have hcz18_2 : w6.cell? ⟨gb123, 2, none⟩ = some (.int .i64 0) := (blk_cell BK123.out 2).trans rfl
   have hcz18_3 : w6.cell? ⟨gb123, 3, none⟩ = some (.int .i64 0) := (blk_cell BK123.out 3).trans rfl
   have hcz18_4 : w6.cell? ⟨gb123, 4, none⟩ = some (.int .i64 0) := (blk_cell BK123.out 4).trans rfl
   have hcz18_5 : w6.cell? ⟨gb123, 5, none⟩ = some (.int .i64 0) := (blk_cell BK123.out 5).trans rfl
   have hfz18_0 := blk_frozen BK123.out 0
   have hfz18_1 := blk_frozen BK123.out 1
   have hfz18_2 := blk_frozen BK123.out 2
   have hfz18_3 := blk_frozen BK123.out 3
   have hfz18_4 := blk_frozen BK123.out 4
   have hfz18_5 := blk_frozen BK123.out 5
   go_wp2_with (first | ((with_reducible refine gate_callee (f := 67) rfl ?_); refine goesL_ (some 16) rfl rfl Try.func67 (by kernel_rfl) rfl #[.int .i64 ((rd_T45 l0 a1).f0), .int .i64 (-1), .int .i64 (wrap64 (a1 - 1))] rfl (by (try simp only [List.map_toArray, List.map_cons, List.map_nil]); first | done | rfl | (simp only [List.length_drop, List.length_take]; rfl)) ?_; (with_reducible refine (spec_l1In.calls ((rd_T45 l0 a1).f0) (-1) (wrap64 (a1 - 1)) true _ A8.out).mono ?_); rintro e w' ⟨rfl, ⟨nd, rfl⟩⟩; refine ⟨_, rfl, ?_⟩; have p125 : 0 ≤ (((rd_T45 l0 a1).f0) : Int) := of_decide_eq_true (by first | (with_reducible assumption) | assumption); have q125 : ((rd_T45 l0 a1).f0) < (l0.length : Int) := of_decide_eq_true (by first | (with_reducible assumption) | assumption); obtain ⟨ad125, e125, hx125_0, hx125_1, hx125_2, hx125_3, hx125_4, hx125_5⟩ := at_T45 HR0.out ((rd_T45 l0 a1).f0) p125 q125; obtain rfl : ad122 = ad125 := (by injection e125); have hn125_0 : ad122.block ≠ gb123 := Nat.ne_of_lt (Nat.lt_of_lt_of_le (by have := World.block_lt_of_cell? _ _ hx125_0; first | rwa [add_block] at this | exact this) GW123.out); have hn125_1 : ad122.block ≠ gb123 := Nat.ne_of_lt (Nat.lt_of_lt_of_le (by have := World.block_lt_of_cell? _ _ hx125_0; first | rwa [add_block] at this | exact this) GW123.out); have hn125_2 : ad122.block ≠ gb123 := Nat.ne_of_lt (Nat.lt_of_lt_of_le (by have := World.block_lt_of_cell? _ _ hx125_0; first | rwa [add_block] at this | exact this) GW123.out); have hn125_3 : ad122.block ≠ gb123 := Nat.ne_of_lt (Nat.lt_of_lt_of_le (by have := World.block_lt_of_cell? _ _ hx125_0; first | rwa [add_block] at this | exact this) GW123.out); have hn125_4 : ad122.block ≠ gb123 := Nat.ne_of_lt (Nat.lt_of_lt_of_le (by have := World.block_lt_of_cell? _ _ hx125_0; first | rwa [add_block] at this | exact this) GW123.out); have hn125_5 : ad122.block ≠ gb123 := Nat.ne_of_lt (Nat.lt_of_lt_of_le (by have := World.block_lt_of_cell? _ _ hx125_0; first | rwa [add_block] at this | exact this) GW123.out); replace hx125_0 := (HB.out.cell (World.block_lt_of_cell? w _ hx125_0)).trans hx125_0; replace hx125_1 := (HB.out.cell (World.block_lt_of_cell? w _ hx125_1)).trans hx125_1; replace hx125_2 := (HB.out.cell (World.block_lt_of_cell? w _ hx125_2)).trans hx125_2; replace hx125_3 := (HB.out.cell (World.block_lt_of_cell? w _ hx125_3)).trans hx125_3; replace hx125_4 := (HB.out.cell (World.block_lt_of_cell? w _ hx125_4)).trans hx125_4; replace hx125_5 := (HB.out.cell (World.block_lt_of_cell? w _ hx125_5)).trans hx125_5; replace hx125_0 := (cell_far (p := ⟨gb123, 0, none⟩) (by first | (rw [add_block]; exact hn125_0) | (show (Addr.add _ _).block ≠ _; rw [add_block]; exact hn125_0) | exact hn125_0) (.int .i64 ((rd_T45 l0 a1).f0))).trans hx125_0; replace hx125_1 := (cell_far (p := ⟨gb123, 0, none⟩) (by first | (rw [add_block]; exact hn125_0) | (show (Addr.add _ _).block ≠ _; rw [add_block]; exact hn125_0) | exact hn125_0) (.int .i64 ((rd_T45 l0 a1).f0))).trans hx125_1; replace hx125_2 := (cell_far (p := ⟨gb123, 0, none⟩) (by first | (rw [add_block]; exact hn125_0) | (show (Addr.add _ _).block ≠ _; rw [add_block]; exact hn125_0) | exact hn125_0) (.int .i64 ((rd_T45 l0 a1).f0))).trans hx125_2; replace hx125_3 := (cell_far (p := ⟨gb123, 0, none⟩) (by first | (rw [add_block]; exact hn125_0) | (show (Addr.add _ _).block ≠ _; rw [add_block]; exact hn125_0) | exact hn125_0) (.int .i64 ((rd_T45 l0 a1).f0))).trans hx125_3; replace hx125_4 := (cell_far (p := ⟨gb123, 0, none⟩) (by first | (rw [add_block]; exact hn125_0) | (show (Addr.add _ _).block ≠ _; rw [add_block]; exact hn125_0) | exact hn125_0) (.int .i64 ((rd_T45 l0 a1).f0))).trans hx125_4; replace hx125_5 := (cell_far (p := ⟨gb123, 0, none⟩) (by first | (rw [add_block]; exact hn125_0) | (show (Addr.add _ _).block ≠ _; rw [add_block]; exact hn125_0) | exact hn125_0) (.int .i64 ((rd_T45 l0 a1).f0))).trans hx125_5; replace hx125_0 := (cell_far (p := ⟨gb123, 1, none⟩) (by first | (rw [add_block]; exact hn125_1) | (show (Addr.add _ _).block ≠ _; rw [add_block]; exact hn125_1) | exact hn125_1) (.int .i64 ((rd_T45 l0 a1).f1.f0))).trans hx125_0; replace hx125_1 := (cell_far (p := ⟨gb123, 1, none⟩) (by first | (rw [add_block]; exact hn125_1) | (show (Addr.add _ _).block ≠ _; rw [add_block]; exact hn125_1) | exact hn125_1) (.int .i64 ((rd_T45 l0 a1).f1.f0))).trans hx125_1; replace hx125_2 := (cell_far (p := ⟨gb123, 1, none⟩) (by first | (rw [add_block]; exact hn125_1) | (show (Addr.add _ _).block ≠ _; rw [add_block]; exact hn125_1) | exact hn125_1) (.int .i64 ((rd_T45 l0 a1).f1.f0))).trans hx125_2; replace hx125_3 := (cell_far (p := ⟨gb123, 1, none⟩) (by first | (rw [add_block]; exact hn125_1) | (show (Addr.add _ _).block ≠ _; rw [add_block]; exact hn125_1) | exact hn125_1) (.int .i64 ((rd_T45 l0 a1).f1.f0))).trans hx125_3; replace hx125_4 := (cell_far (p := ⟨gb123, 1, none⟩) (by first | (rw [add_block]; exact hn125_1) | (show (Addr.add _ _).block ≠ _; rw [add_block]; exact hn125_1) | exact hn125_1) (.int .i64 ((rd_T45 l0 a1).f1.f0))).trans hx125_4; replace hx125_5 := (cell_far (p := ⟨gb123, 1, none⟩) (by first | (rw [add_block]; exact hn125_1) | (show (Addr.add _ _).block ≠ _; rw [add_block]; exact hn125_1) | exact hn125_1) (.int .i64 ((rd_T45 l0 a1).f1.f0))).trans hx125_5; replace hx125_0 := (cell_far (p := ⟨gb123, 2, none⟩) (by first | (rw [add_block]; exact hn125_2) | (show (Addr.add _ _).block ≠ _; rw [add_block]; exact hn125_2) | exact hn125_2) (.int .i64 ((rd_T45 l0 a1).f1.f1))).trans hx125_0; replace hx125_1 := (cell_far (p := ⟨gb123, 2, none⟩) (by first | (rw [add_block]; exact hn125_2) | (show (Addr.add _ _).block ≠ _; rw [add_block]; exact hn125_2) | exact hn125_2) (.int .i64 ((rd_T45 l0 a1).f1.f1))).trans hx125_1; replace hx125_2 := (cell_far (p := ⟨gb123, 2, none⟩) (by first | (rw [add_block]; exact hn125_2) | (show (Addr.add _ _).block ≠ _; rw [add_block]; exact hn125_2) | exact hn125_2) (.int .i64 ((rd_T45 l0 a1).f1.f1))).trans hx125_2; replace hx125_3 := (cell_far (p := ⟨gb123, 2, none⟩) (by first | (rw [add_block]; exact hn125_2) | (show (Addr.add _ _).block ≠ _; rw [add_block]; exact hn125_2) | exact hn125_2) (.int .i64 ((rd_T45 l0 a1).f1.f1))).trans hx125_3; replace hx125_4 := (cell_far (p := ⟨gb123, 2, none⟩) (by first | (rw [add_block]; exact hn125_2) | (show (Addr.add _ _).block ≠ _; rw [add_block]; exact hn125_2) | exact hn125_2) (.int .i64 ((rd_T45 l0 a1).f1.f1))).trans hx125_4; replace hx125_5 := (cell_far (p := ⟨gb123, 2, none⟩) (by first | (rw [add_block]; exact hn125_2) | (show (Addr.add _ _).block ≠ _; rw [add_block]; exact hn125_2) | exact hn125_2) (.int .i64 ((rd_T45 l0 a1).f1.f1))).trans hx125_5; replace hx125_0 := (cell_far (p := ⟨gb123, 3, none⟩) (by first | (rw [add_block]; exact hn125_3) | (show (Addr.add _ _).block ≠ _; rw [add_block]; exact hn125_3) | exact hn125_3) (.int .i64 ((rd_T45 l0 a1).f2))).trans hx125_0; replace hx125_1 := (cell_far (p := ⟨gb123, 3, none⟩) (by first | (rw [add_block]; exact hn125_3) | (show (Addr.add _ _).block ≠ _; rw [add_block]; exact hn125_3) | exact hn125_3) (.int .i64 ((rd_T45 l0 a1).f2))).trans hx125_1; replace hx125_2 := (cell_far (p := ⟨gb123, 3, none⟩) (by first | (rw [add_block]; exact hn125_3) | (show (Addr.add _ _).block ≠ _; rw [add_block]; exact hn125_3) | exact hn125_3) (.int .i64 ((rd_T45 l0 a1).f2))).trans hx125_2; replace hx125_3 := (cell_far (p := ⟨gb123, 3, none⟩) (by first | (rw [add_block]; exact hn125_3) | (show (Addr.add _ _).block ≠ _; rw [add_block]; exact hn125_3) | exact hn125_3) (.int .i64 ((rd_T45 l0 a1).f2))).trans hx125_3; replace hx125_4 := (cell_far (p := ⟨gb123, 3, none⟩) (by first | (rw [add_block]; exact hn125_3) | (show (Addr.add _ _).block ≠ _; rw [add_block]; exact hn125_3) | exact hn125_3) (.int .i64 ((rd_T45 l0 a1).f2))).trans hx125_4; replace hx125_5 := (cell_far (p := ⟨gb123, 3, none⟩) (by first | (rw [add_block]; exact hn125_3) | (show (Addr.add _ _).block ≠ _; rw [add_block]; exact hn125_3) | exact hn125_3) (.int .i64 ((rd_T45 l0 a1).f2))).trans hx125_5; replace hx125_0 := (cell_far (p := ⟨gb123, 4, none⟩) (by first | (rw [add_block]; exact hn125_4) | (show (Addr.add _ _).block ≠ _; rw [add_block]; exact hn125_4) | exact hn125_4) (.int .i64 ((rd_T45 l0 a1).f3))).trans hx125_0; replace hx125_1 := (cell_far (p := ⟨gb123, 4, none⟩) (by first | (rw [add_block]; exact hn125_4) | (show (Addr.add _ _).block ≠ _; rw [add_block]; exact hn125_4) | exact hn125_4) (.int .i64 ((rd_T45 l0 a1).f3))).trans hx125_1; replace hx125_2 := (cell_far (p := ⟨gb123, 4, none⟩) (by first | (rw [add_block]; exact hn125_4) | (show (Addr.add _ _).block ≠ _; rw [add_block]; exact hn125_4) | exact hn125_4) (.int .i64 ((rd_T45 l0 a1).f3))).trans hx125_2; replace hx125_3 := (cell_far (p := ⟨gb123, 4, none⟩) (by first | (rw [add_block]; exact hn125_4) | (show (Addr.add _ _).block ≠ _; rw [add_block]; exact hn125_4) | exact hn125_4) (.int .i64 ((rd_T45 l0 a1).f3))).trans hx125_3; replace hx125_4 := (cell_far (p := ⟨gb123, 4, none⟩) (by first | (rw [add_block]; exact hn125_4) | (show (Addr.add _ _).block ≠ _; rw [add_block]; exact hn125_4) | exact hn125_4) (.int .i64 ((rd_T45 l0 a1).f3))).trans hx125_4; replace hx125_5 := (cell_far (p := ⟨gb123, 4, none⟩) (by first | (rw [add_block]; exact hn125_4) | (show (Addr.add _ _).block ≠ _; rw [add_block]; exact hn125_4) | exact hn125_4) (.int .i64 ((rd_T45 l0 a1).f3))).trans hx125_5; replace hx125_0 := (cell_far (p := ⟨gb123, 5, none⟩) (by first | (rw [add_block]; exact hn125_5) | (show (Addr.add _ _).block ≠ _; rw [add_block]; exact hn125_5) | exact hn125_5) (.int .i64 ((rd_T45 l0 a1).f4))).trans hx125_0; replace hx125_1 := (cell_far (p := ⟨gb123, 5, none⟩) (by first | (rw [add_block]; exact hn125_5) | (show (Addr.add _ _).block ≠ _; rw [add_block]; exact hn125_5) | exact hn125_5) (.int .i64 ((rd_T45 l0 a1).f4))).trans hx125_1; replace hx125_2 := (cell_far (p := ⟨gb123, 5, none⟩) (by first | (rw [add_block]; exact hn125_5) | (show (Addr.add _ _).block ≠ _; rw [add_block]; exact hn125_5) | exact hn125_5) (.int .i64 ((rd_T45 l0 a1).f4))).trans hx125_2; replace hx125_3 := (cell_far (p := ⟨gb123, 5, none⟩) (by first | (rw [add_block]; exact hn125_5) | (show (Addr.add _ _).block ≠ _; rw [add_block]; exact hn125_5) | exact hn125_5) (.int .i64 ((rd_T45 l0 a1).f4))).trans hx125_3; replace hx125_4 := (cell_far (p := ⟨gb123, 5, none⟩) (by first | (rw [add_block]; exact hn125_5) | (show (Addr.add _ _).block ≠ _; rw [add_block]; exact hn125_5) | exact hn125_5) (.int .i64 ((rd_T45 l0 a1).f4))).trans hx125_4; replace hx125_5 := (cell_far (p := ⟨gb123, 5, none⟩) (by first | (rw [add_block]; exact hn125_5) | (show (Addr.add _ _).block ≠ _; rw [add_block]; exact hn125_5) | exact hn125_5) (.int .i64 ((rd_T45 l0 a1).f4))).trans hx125_5; clear hn125_0; clear hn125_1; clear hn125_2; clear hn125_3; clear hn125_4; clear hn125_5; replace p125 := eq_true p125; replace q125 := eq_true q125) | (go_at_call 72; (with_reducible refine (spec_hoOne.calls ((rd_T45 l0 a1).f1.f0) ((rd_T45 l0 a1).f1.f1) true _ A15.out).mono ?_); rintro e w19 ⟨rfl, hb⟩; have n0_ := Aside0.mk (blk_below (g := gb123) (o := .cells #[.int .i64 ((rd_T45 l0 a1).f0), .int .i64 ((rd_T45 l0 a1).f1.f0), .int .i64 ((rd_T45 l0 a1).f1.f1), .int .i64 ((rd_T45 l0 a1).f2), .int .i64 ((rd_T45 l0 a1).f3), .int .i64 ((rd_T45 l0 a1).f4)] 45 (0, 0)) (by (with_reducible repeat (first | refine blk_drewN ?_ _ | refine blk_drew ?_ | refine blk_alloc ?_ _)); refine blk_put (cs := #[.int .i64 ((rd_T45 l0 a1).f0), .int .i64 ((rd_T45 l0 a1).f1.f0), .int .i64 ((rd_T45 l0 a1).f1.f1), .int .i64 ((rd_T45 l0 a1).f2), .int .i64 ((rd_T45 l0 a1).f3), .int .i64 0]) ?_ 5 _ rfl; (with_reducible repeat (first | refine blk_drewN ?_ _ | refine blk_drew ?_ | refine blk_alloc ?_ _)); refine blk_put (cs := #[.int .i64 ((rd_T45 l0 a1).f0), .int .i64 ((rd_T45 l0 a1).f1.f0), .int .i64 ((rd_T45 l0 a1).f1.f1), .int .i64 ((rd_T45 l0 a1).f2), .int .i64 0, .int .i64 0]) ?_ 4 _ rfl; (with_reducible repeat (first | refine blk_drewN ?_ _ | refine blk_drew ?_ | refine blk_alloc ?_ _)); refine blk_put (cs := #[.int .i64 ((rd_T45 l0 a1).f0), .int .i64 ((rd_T45 l0 a1).f1.f0), .int .i64 ((rd_T45 l0 a1).f1.f1), .int .i64 0, .int .i64 0, .int .i64 0]) ?_ 3 _ rfl; (with_reducible repeat (first | refine blk_drewN ?_ _ | refine blk_drew ?_ | refine blk_alloc ?_ _)); refine blk_put (cs := #[.int .i64 ((rd_T45 l0 a1).f0), .int .i64 ((rd_T45 l0 a1).f1.f0), .int .i64 0, .int .i64 0, .int .i64 0, .int .i64 0]) ?_ 2 _ rfl; (with_reducible repeat (first | refine blk_drewN ?_ _ | refine blk_drew ?_ | refine blk_alloc ?_ _)); refine blk_put (cs := #[.int .i64 ((rd_T45 l0 a1).f0), .int .i64 0, .int .i64 0, .int .i64 0, .int .i64 0, .int .i64 0]) ?_ 1 _ rfl; (with_reducible repeat (first | refine blk_drewN ?_ _ | refine blk_drew ?_ | refine blk_alloc ?_ _)); refine blk_put (cs := #[.int .i64 0, .int .i64 0, .int .i64 0, .int .i64 0, .int .i64 0, .int .i64 0]) ?_ 0 _ rfl; (with_reducible repeat (first | refine blk_drewN ?_ _ | refine blk_drew ?_ | refine blk_alloc ?_ _)); exact BK123.out) hb); have n1_ := Aside0.mk (below_step (by repeat (first | (with_reducible first | exact HB.out | apply below_alloc | apply pw_below_drewN | apply below_drew1 | refine below_set ?_ GE123.out) | exact HB.out)) hb); clear BK123; clear HB; have BK123 := n0_; have HB := n1_; clear n0_ n1_; (try clear hb); (try clear hb2); (try clear hk); (try clear hi); have hcz20_0 : w19.cell? ⟨gb123, 0, none⟩ = some (.int .i64 ((rd_T45 l0 a1).f0)) := (blk_cell BK123.out 0).trans rfl; have hcz20_1 : w19.cell? ⟨gb123, 1, none⟩ = some (.int .i64 ((rd_T45 l0 a1).f1.f0)) := (blk_cell BK123.out 1).trans rfl; have hcz20_2 : w19.cell? ⟨gb123, 2, none⟩ = some (.int .i64 ((rd_T45 l0 a1).f1.f1)) := (blk_cell BK123.out 2).trans rfl; have hcz20_3 : w19.cell? ⟨gb123, 3, none⟩ = some (.int .i64 ((rd_T45 l0 a1).f2)) := (blk_cell BK123.out 3).trans rfl; have hcz20_4 : w19.cell? ⟨gb123, 4, none⟩ = some (.int .i64 ((rd_T45 l0 a1).f3)) := (blk_cell BK123.out 4).trans rfl; have hcz20_5 : w19.cell? ⟨gb123, 5, none⟩ = some (.int .i64 ((rd_T45 l0 a1).f4)) := (blk_cell BK123.out 5).trans rfl; have hfz20_0 := blk_frozen BK123.out 0; have hfz20_1 := blk_frozen BK123.out 1; have hfz20_2 := blk_frozen BK123.out 2; have hfz20_3 := blk_frozen BK123.out 3; have hfz20_4 := blk_frozen BK123.out 4; have hfz20_5 := blk_frozen BK123.out 5) | (go_at_call 67; (with_reducible refine (spec_l1In.calls ((rd_T45 l0 a1).f2) (-500) 500 t127 _ A17.out).mono ?_); rintro e w' ⟨rfl, ⟨nd, rfl⟩⟩))
   go_meet
   case rel => exact ⟨_, (!t127), (by first | rfl | (simp; done) | (simp [*]; done)), H', ⟨by first | omega | exact Nat.le_refl _⟩, ⟨by (with_reducible repeat (first | refine blk_drewN ?_ _ | refine blk_drew ?_ | refine blk_alloc ?_ _)); exact BK123.out⟩, ⟨by repeat (first | (with_reducible first | exact HB.out | apply below_alloc | apply pw_below_drewN | apply below_drew1 | refine below_set ?_ GE123.out) | exact HB.out)⟩⟩
  rw [if_pos c13] at H
  have c13b0 : decide (0 < ((rd_T45 l0 ((rd_T45 l0 a1).f0)).f3)) = true := decide_eq_true c13
  clear c13
  have H' := Aside0.mk H
  clear H
  have hcz14_0 : w6.cell? ⟨gb123, 0, none⟩ = some (.int .i64 0) := (blk_cell BK123.out 0).trans rfl
  have hcz14_1 : w6.cell? ⟨gb123, 1, none⟩ = some (.int .i64 0) := (blk_cell BK123.out 1).trans rfl
  have hcz14_2 : w6.cell? ⟨gb123, 2, none⟩ = some (.int .i64 0) := (blk_cell BK123.out 2).trans rfl
  have hcz14_3 : w6.cell? ⟨gb123, 3, none⟩ = some (.int .i64 0) := (blk_cell BK123.out 3).trans rfl
  have hcz14_4 : w6.cell? ⟨gb123, 4, none⟩ = some (.int .i64 0) := (blk_cell BK123.out 4).trans rfl
  have hcz14_5 : w6.cell? ⟨gb123, 5, none⟩ = some (.int .i64 0) := (blk_cell BK123.out 5).trans rfl
  have hfz14_0 := blk_frozen BK123.out 0
  have hfz14_1 := blk_frozen BK123.out 1
  have hfz14_2 := blk_frozen BK123.out 2
  have hfz14_3 := blk_frozen BK123.out 3
  have hfz14_4 := blk_frozen BK123.out 4
  have hfz14_5 := blk_frozen BK123.out 5
  go_wp2_with (first | ((with_reducible refine gate_callee (f := 67) rfl ?_); refine goesL_ (some 16) rfl rfl Try.func67 (by kernel_rfl) rfl #[.int .i64 ((rd_T45 l0 a1).f0), .int .i64 (-1), .int .i64 (wrap64 (a1 - 1))] rfl (by (try simp only [List.map_toArray, List.map_cons, List.map_nil]); first | done | rfl | (simp only [List.length_drop, List.length_take]; rfl)) ?_; (with_reducible refine (spec_l1In.calls ((rd_T45 l0 a1).f0) (-1) (wrap64 (a1 - 1)) true _ A8.out).mono ?_); rintro e w' ⟨rfl, ⟨nd, rfl⟩⟩; refine ⟨_, rfl, ?_⟩; have p125 : 0 ≤ (((rd_T45 l0 a1).f0) : Int) := of_decide_eq_true (by first | (with_reducible assumption) | assumption); have q125 : ((rd_T45 l0 a1).f0) < (l0.length : Int) := of_decide_eq_true (by first | (with_reducible assumption) | assumption); obtain ⟨ad125, e125, hx125_0, hx125_1, hx125_2, hx125_3, hx125_4, hx125_5⟩ := at_T45 HR0.out ((rd_T45 l0 a1).f0) p125 q125; obtain rfl : ad122 = ad125 := (by injection e125); have hn125_0 : ad122.block ≠ gb123 := Nat.ne_of_lt (Nat.lt_of_lt_of_le (by have := World.block_lt_of_cell? _ _ hx125_0; first | rwa [add_block] at this | exact this) GW123.out); have hn125_1 : ad122.block ≠ gb123 := Nat.ne_of_lt (Nat.lt_of_lt_of_le (by have := World.block_lt_of_cell? _ _ hx125_0; first | rwa [add_block] at this | exact this) GW123.out); have hn125_2 : ad122.block ≠ gb123 := Nat.ne_of_lt (Nat.lt_of_lt_of_le (by have := World.block_lt_of_cell? _ _ hx125_0; first | rwa [add_block] at this | exact this) GW123.out); have hn125_3 : ad122.block ≠ gb123 := Nat.ne_of_lt (Nat.lt_of_lt_of_le (by have := World.block_lt_of_cell? _ _ hx125_0; first | rwa [add_block] at this | exact this) GW123.out); have hn125_4 : ad122.block ≠ gb123 := Nat.ne_of_lt (Nat.lt_of_lt_of_le (by have := World.block_lt_of_cell? _ _ hx125_0; first | rwa [add_block] at this | exact this) GW123.out); have hn125_5 : ad122.block ≠ gb123 := Nat.ne_of_lt (Nat.lt_of_lt_of_le (by have := World.block_lt_of_cell? _ _ hx125_0; first | rwa [add_block] at this | exact this) GW123.out); replace hx125_0 := (HB.out.cell (World.block_lt_of_cell? w _ hx125_0)).trans hx125_0; replace hx125_1 := (HB.out.cell (World.block_lt_of_cell? w _ hx125_1)).trans hx125_1; replace hx125_2 := (HB.out.cell (World.block_lt_of_cell? w _ hx125_2)).trans hx125_2; replace hx125_3 := (HB.out.cell (World.block_lt_of_cell? w _ hx125_3)).trans hx125_3; replace hx125_4 := (HB.out.cell (World.block_lt_of_cell? w _ hx125_4)).trans hx125_4; replace hx125_5 := (HB.out.cell (World.block_lt_of_cell? w _ hx125_5)).trans hx125_5; replace hx125_0 := (cell_far (p := ⟨gb123, 0, none⟩) (by first | (rw [add_block]; exact hn125_0) | (show (Addr.add _ _).block ≠ _; rw [add_block]; exact hn125_0) | exact hn125_0) (.int .i64 ((rd_T45 l0 a1).f0))).trans hx125_0; replace hx125_1 := (cell_far (p := ⟨gb123, 0, none⟩) (by first | (rw [add_block]; exact hn125_0) | (show (Addr.add _ _).block ≠ _; rw [add_block]; exact hn125_0) | exact hn125_0) (.int .i64 ((rd_T45 l0 a1).f0))).trans hx125_1; replace hx125_2 := (cell_far (p := ⟨gb123, 0, none⟩) (by first | (rw [add_block]; exact hn125_0) | (show (Addr.add _ _).block ≠ _; rw [add_block]; exact hn125_0) | exact hn125_0) (.int .i64 ((rd_T45 l0 a1).f0))).trans hx125_2; replace hx125_3 := (cell_far (p := ⟨gb123, 0, none⟩) (by first | (rw [add_block]; exact hn125_0) | (show (Addr.add _ _).block ≠ _; rw [add_block]; exact hn125_0) | exact hn125_0) (.int .i64 ((rd_T45 l0 a1).f0))).trans hx125_3; replace hx125_4 := (cell_far (p := ⟨gb123, 0, none⟩) (by first | (rw [add_block]; exact hn125_0) | (show (Addr.add _ _).block ≠ _; rw [add_block]; exact hn125_0) | exact hn125_0) (.int .i64 ((rd_T45 l0 a1).f0))).trans hx125_4; replace hx125_5 := (cell_far (p := ⟨gb123, 0, none⟩) (by first | (rw [add_block]; exact hn125_0) | (show (Addr.add _ _).block ≠ _; rw [add_block]; exact hn125_0) | exact hn125_0) (.int .i64 ((rd_T45 l0 a1).f0))).trans hx125_5; replace hx125_0 := (cell_far (p := ⟨gb123, 1, none⟩) (by first | (rw [add_block]; exact hn125_1) | (show (Addr.add _ _).block ≠ _; rw [add_block]; exact hn125_1) | exact hn125_1) (.int .i64 ((rd_T45 l0 a1).f1.f0))).trans hx125_0; replace hx125_1 := (cell_far (p := ⟨gb123, 1, none⟩) (by first | (rw [add_block]; exact hn125_1) | (show (Addr.add _ _).block ≠ _; rw [add_block]; exact hn125_1) | exact hn125_1) (.int .i64 ((rd_T45 l0 a1).f1.f0))).trans hx125_1; replace hx125_2 := (cell_far (p := ⟨gb123, 1, none⟩) (by first | (rw [add_block]; exact hn125_1) | (show (Addr.add _ _).block ≠ _; rw [add_block]; exact hn125_1) | exact hn125_1) (.int .i64 ((rd_T45 l0 a1).f1.f0))).trans hx125_2; replace hx125_3 := (cell_far (p := ⟨gb123, 1, none⟩) (by first | (rw [add_block]; exact hn125_1) | (show (Addr.add _ _).block ≠ _; rw [add_block]; exact hn125_1) | exact hn125_1) (.int .i64 ((rd_T45 l0 a1).f1.f0))).trans hx125_3; replace hx125_4 := (cell_far (p := ⟨gb123, 1, none⟩) (by first | (rw [add_block]; exact hn125_1) | (show (Addr.add _ _).block ≠ _; rw [add_block]; exact hn125_1) | exact hn125_1) (.int .i64 ((rd_T45 l0 a1).f1.f0))).trans hx125_4; replace hx125_5 := (cell_far (p := ⟨gb123, 1, none⟩) (by first | (rw [add_block]; exact hn125_1) | (show (Addr.add _ _).block ≠ _; rw [add_block]; exact hn125_1) | exact hn125_1) (.int .i64 ((rd_T45 l0 a1).f1.f0))).trans hx125_5; replace hx125_0 := (cell_far (p := ⟨gb123, 2, none⟩) (by first | (rw [add_block]; exact hn125_2) | (show (Addr.add _ _).block ≠ _; rw [add_block]; exact hn125_2) | exact hn125_2) (.int .i64 ((rd_T45 l0 a1).f1.f1))).trans hx125_0; replace hx125_1 := (cell_far (p := ⟨gb123, 2, none⟩) (by first | (rw [add_block]; exact hn125_2) | (show (Addr.add _ _).block ≠ _; rw [add_block]; exact hn125_2) | exact hn125_2) (.int .i64 ((rd_T45 l0 a1).f1.f1))).trans hx125_1; replace hx125_2 := (cell_far (p := ⟨gb123, 2, none⟩) (by first | (rw [add_block]; exact hn125_2) | (show (Addr.add _ _).block ≠ _; rw [add_block]; exact hn125_2) | exact hn125_2) (.int .i64 ((rd_T45 l0 a1).f1.f1))).trans hx125_2; replace hx125_3 := (cell_far (p := ⟨gb123, 2, none⟩) (by first | (rw [add_block]; exact hn125_2) | (show (Addr.add _ _).block ≠ _; rw [add_block]; exact hn125_2) | exact hn125_2) (.int .i64 ((rd_T45 l0 a1).f1.f1))).trans hx125_3; replace hx125_4 := (cell_far (p := ⟨gb123, 2, none⟩) (by first | (rw [add_block]; exact hn125_2) | (show (Addr.add _ _).block ≠ _; rw [add_block]; exact hn125_2) | exact hn125_2) (.int .i64 ((rd_T45 l0 a1).f1.f1))).trans hx125_4; replace hx125_5 := (cell_far (p := ⟨gb123, 2, none⟩) (by first | (rw [add_block]; exact hn125_2) | (show (Addr.add _ _).block ≠ _; rw [add_block]; exact hn125_2) | exact hn125_2) (.int .i64 ((rd_T45 l0 a1).f1.f1))).trans hx125_5; replace hx125_0 := (cell_far (p := ⟨gb123, 3, none⟩) (by first | (rw [add_block]; exact hn125_3) | (show (Addr.add _ _).block ≠ _; rw [add_block]; exact hn125_3) | exact hn125_3) (.int .i64 ((rd_T45 l0 a1).f2))).trans hx125_0; replace hx125_1 := (cell_far (p := ⟨gb123, 3, none⟩) (by first | (rw [add_block]; exact hn125_3) | (show (Addr.add _ _).block ≠ _; rw [add_block]; exact hn125_3) | exact hn125_3) (.int .i64 ((rd_T45 l0 a1).f2))).trans hx125_1; replace hx125_2 := (cell_far (p := ⟨gb123, 3, none⟩) (by first | (rw [add_block]; exact hn125_3) | (show (Addr.add _ _).block ≠ _; rw [add_block]; exact hn125_3) | exact hn125_3) (.int .i64 ((rd_T45 l0 a1).f2))).trans hx125_2; replace hx125_3 := (cell_far (p := ⟨gb123, 3, none⟩) (by first | (rw [add_block]; exact hn125_3) | (show (Addr.add _ _).block ≠ _; rw [add_block]; exact hn125_3) | exact hn125_3) (.int .i64 ((rd_T45 l0 a1).f2))).trans hx125_3; replace hx125_4 := (cell_far (p := ⟨gb123, 3, none⟩) (by first | (rw [add_block]; exact hn125_3) | (show (Addr.add _ _).block ≠ _; rw [add_block]; exact hn125_3) | exact hn125_3) (.int .i64 ((rd_T45 l0 a1).f2))).trans hx125_4; replace hx125_5 := (cell_far (p := ⟨gb123, 3, none⟩) (by first | (rw [add_block]; exact hn125_3) | (show (Addr.add _ _).block ≠ _; rw [add_block]; exact hn125_3) | exact hn125_3) (.int .i64 ((rd_T45 l0 a1).f2))).trans hx125_5; replace hx125_0 := (cell_far (p := ⟨gb123, 4, none⟩) (by first | (rw [add_block]; exact hn125_4) | (show (Addr.add _ _).block ≠ _; rw [add_block]; exact hn125_4) | exact hn125_4) (.int .i64 ((rd_T45 l0 a1).f3))).trans hx125_0; replace hx125_1 := (cell_far (p := ⟨gb123, 4, none⟩) (by first | (rw [add_block]; exact hn125_4) | (show (Addr.add _ _).block ≠ _; rw [add_block]; exact hn125_4) | exact hn125_4) (.int .i64 ((rd_T45 l0 a1).f3))).trans hx125_1; replace hx125_2 := (cell_far (p := ⟨gb123, 4, none⟩) (by first | (rw [add_block]; exact hn125_4) | (show (Addr.add _ _).block ≠ _; rw [add_block]; exact hn125_4) | exact hn125_4) (.int .i64 ((rd_T45 l0 a1).f3))).trans hx125_2; replace hx125_3 := (cell_far (p := ⟨gb123, 4, none⟩) (by first | (rw [add_block]; exact hn125_4) | (show (Addr.add _ _).block ≠ _; rw [add_block]; exact hn125_4) | exact hn125_4) (.int .i64 ((rd_T45 l0 a1).f3))).trans hx125_3; replace hx125_4 := (cell_far (p := ⟨gb123, 4, none⟩) (by first | (rw [add_block]; exact hn125_4) | (show (Addr.add _ _).block ≠ _; rw [add_block]; exact hn125_4) | exact hn125_4) (.int .i64 ((rd_T45 l0 a1).f3))).trans hx125_4; replace hx125_5 := (cell_far (p := ⟨gb123, 4, none⟩) (by first | (rw [add_block]; exact hn125_4) | (show (Addr.add _ _).block ≠ _; rw [add_block]; exact hn125_4) | exact hn125_4) (.int .i64 ((rd_T45 l0 a1).f3))).trans hx125_5; replace hx125_0 := (cell_far (p := ⟨gb123, 5, none⟩) (by first | (rw [add_block]; exact hn125_5) | (show (Addr.add _ _).block ≠ _; rw [add_block]; exact hn125_5) | exact hn125_5) (.int .i64 ((rd_T45 l0 a1).f4))).trans hx125_0; replace hx125_1 := (cell_far (p := ⟨gb123, 5, none⟩) (by first | (rw [add_block]; exact hn125_5) | (show (Addr.add _ _).block ≠ _; rw [add_block]; exact hn125_5) | exact hn125_5) (.int .i64 ((rd_T45 l0 a1).f4))).trans hx125_1; replace hx125_2 := (cell_far (p := ⟨gb123, 5, none⟩) (by first | (rw [add_block]; exact hn125_5) | (show (Addr.add _ _).block ≠ _; rw [add_block]; exact hn125_5) | exact hn125_5) (.int .i64 ((rd_T45 l0 a1).f4))).trans hx125_2; replace hx125_3 := (cell_far (p := ⟨gb123, 5, none⟩) (by first | (rw [add_block]; exact hn125_5) | (show (Addr.add _ _).block ≠ _; rw [add_block]; exact hn125_5) | exact hn125_5) (.int .i64 ((rd_T45 l0 a1).f4))).trans hx125_3; replace hx125_4 := (cell_far (p := ⟨gb123, 5, none⟩) (by first | (rw [add_block]; exact hn125_5) | (show (Addr.add _ _).block ≠ _; rw [add_block]; exact hn125_5) | exact hn125_5) (.int .i64 ((rd_T45 l0 a1).f4))).trans hx125_4; replace hx125_5 := (cell_far (p := ⟨gb123, 5, none⟩) (by first | (rw [add_block]; exact hn125_5) | (show (Addr.add _ _).block ≠ _; rw [add_block]; exact hn125_5) | exact hn125_5) (.int .i64 ((rd_T45 l0 a1).f4))).trans hx125_5; clear hn125_0; clear hn125_1; clear hn125_2; clear hn125_3; clear hn125_4; clear hn125_5; replace p125 := eq_true p125; replace q125 := eq_true q125))
  go_meet
  case rel => exact ⟨_, (true), (by first | rfl | (simp; done) | (simp [*]; done)), H', ⟨by first | omega | exact Nat.le_refl _⟩, ⟨by (with_reducible repeat (first | refine blk_drewN ?_ _ | refine blk_drew ?_ | refine blk_alloc ?_ _)); refine blk_put (cs := #[.int .i64 ((rd_T45 l0 a1).f0), .int .i64 ((rd_T45 l0 a1).f1.f0), .int .i64 ((rd_T45 l0 a1).f1.f1), .int .i64 ((rd_T45 l0 a1).f2), .int .i64 ((rd_T45 l0 a1).f3), .int .i64 0]) ?_ 5 _ rfl; (with_reducible repeat (first | refine blk_drewN ?_ _ | refine blk_drew ?_ | refine blk_alloc ?_ _)); refine blk_put (cs := #[.int .i64 ((rd_T45 l0 a1).f0), .int .i64 ((rd_T45 l0 a1).f1.f0), .int .i64 ((rd_T45 l0 a1).f1.f1), .int .i64 ((rd_T45 l0 a1).f2), .int .i64 0, .int .i64 0]) ?_ 4 _ rfl; (with_reducible repeat (first | refine blk_drewN ?_ _ | refine blk_drew ?_ | refine blk_alloc ?_ _)); refine blk_put (cs := #[.int .i64 ((rd_T45 l0 a1).f0), .int .i64 ((rd_T45 l0 a1).f1.f0), .int .i64 ((rd_T45 l0 a1).f1.f1), .int .i64 0, .int .i64 0, .int .i64 0]) ?_ 3 _ rfl; (with_reducible repeat (first | refine blk_drewN ?_ _ | refine blk_drew ?_ | refine blk_alloc ?_ _)); refine blk_put (cs := #[.int .i64 ((rd_T45 l0 a1).f0), .int .i64 ((rd_T45 l0 a1).f1.f0), .int .i64 0, .int .i64 0, .int .i64 0, .int .i64 0]) ?_ 2 _ rfl; (with_reducible repeat (first | refine blk_drewN ?_ _ | refine blk_drew ?_ | refine blk_alloc ?_ _)); refine blk_put (cs := #[.int .i64 ((rd_T45 l0 a1).f0), .int .i64 0, .int .i64 0, .int .i64 0, .int .i64 0, .int .i64 0]) ?_ 1 _ rfl; (with_reducible repeat (first | refine blk_drewN ?_ _ | refine blk_drew ?_ | refine blk_alloc ?_ _)); refine blk_put (cs := #[.int .i64 0, .int .i64 0, .int .i64 0, .int .i64 0, .int .i64 0, .int .i64 0]) ?_ 0 _ rfl; (with_reducible repeat (first | refine blk_drewN ?_ _ | refine blk_drew ?_ | refine blk_alloc ?_ _)); exact BK123.out⟩, ⟨by repeat (first | (with_reducible first | exact HB.out | apply below_alloc | apply pw_below_drewN | apply below_drew1 | refine below_set ?_ GE123.out) | exact HB.out)⟩⟩
 case rest =>
  clear HC5
  try clear c1
  try clear p1
  try clear q1
  try clear hx1
  try clear c2
  try clear p2
  try clear c3
  try clear c3b0
  try clear c4
  try clear c4b0
  try clear c6
  try clear p6
  try clear c7
  try clear c9
  try clear c10
  try clear c10b0
  try clear c11
  try clear c11b0
  try clear c12
  try clear c12b0
  try clear p12
  try clear q12
  try clear hx12
  try clear c13
  try clear c13b0
  try clear c16
  try clear c24
  try clear hcz14_0
  try clear hcz14_1
  try clear hcz14_2
  try clear hcz14_3
  try clear hcz14_4
  try clear hcz14_5
  try clear hcz18_0
  try clear hcz18_1
  try clear hcz18_2
  try clear hcz18_3
  try clear hcz18_4
  try clear hcz18_5
  try clear hcz20_0
  try clear hcz20_1
  try clear hcz20_2
  try clear hcz20_3
  try clear hcz20_4
  try clear hcz20_5
  try clear hcz21_0
  try clear hcz21_1
  try clear hcz21_2
  try clear hcz21_3
  try clear hcz21_4
  try clear hcz21_5
  try clear hcz26_0
  try clear hcz26_1
  try clear hcz26_2
  try clear hcz26_3
  try clear hcz26_4
  try clear hcz26_5
  try clear hcz28_0
  try clear hcz28_1
  try clear hcz28_2
  try clear hcz28_3
  try clear hcz28_4
  try clear hcz28_5
  try clear hcz29_0
  try clear hcz29_1
  try clear hcz29_2
  try clear hcz29_3
  try clear hcz29_4
  try clear hcz29_5
  try clear hcz31_0
  try clear hcz31_1
  try clear hcz31_2
  try clear hcz31_3
  try clear hcz31_4
  try clear hcz31_5
  try clear hcz7_0
  try clear hcz7_1
  try clear hcz7_2
  try clear hcz7_3
  try clear hcz7_4
  try clear hcz7_5
  try clear hfz14_0
  try clear hfz14_1
  try clear hfz14_2
  try clear hfz14_3
  try clear hfz14_4
  try clear hfz14_5
  try clear hfz18_0
  try clear hfz18_1
  try clear hfz18_2
  try clear hfz18_3
  try clear hfz18_4
  try clear hfz18_5
  try clear hfz20_0
  try clear hfz20_1
  try clear hfz20_2
  try clear hfz20_3
  try clear hfz20_4
  try clear hfz20_5
  try clear hfz21_0
  try clear hfz21_1
  try clear hfz21_2
  try clear hfz21_3
  try clear hfz21_4
  try clear hfz21_5
  try clear hfz26_0
  try clear hfz26_1
  try clear hfz26_2
  try clear hfz26_3
  try clear hfz26_4
  try clear hfz26_5
  try clear hfz28_0
  try clear hfz28_1
  try clear hfz28_2
  try clear hfz28_3
  try clear hfz28_4
  try clear hfz28_5
  try clear hfz29_0
  try clear hfz29_1
  try clear hfz29_2
  try clear hfz29_3
  try clear hfz29_4
  try clear hfz29_5
  try clear hfz31_0
  try clear hfz31_1
  try clear hfz31_2
  try clear hfz31_3
  try clear hfz31_4
  try clear hfz31_5
  try clear hfz7_0
  try clear hfz7_1
  try clear hfz7_2
  try clear hfz7_3
  try clear hfz7_4
  try clear hfz7_5
  try clear hx122_0
  try clear hx122_1
  try clear hx122_2
  try clear hx122_3
  try clear hx122_4
  try clear hx122_5
  try clear hx125_0
  try clear hx125_1
  try clear hx125_2
  try clear hx125_3
  try clear hx125_4
  try clear hx125_5
  try clear p122
  try clear p125
  try clear q122
  try clear q125
  obtain ⟨kq, x43_4, rfl, HA, HJ4, BK123, HB⟩ := hcut
  cases kq with
  | zero => exact absurd HA.out (by simp [spec_liPart.j0])
  | succ kj4 =>
   have H := HA.out
   clear HA
   simp only [spec_liPart.j0] at H
   by_cases c32 : x43_4 = true
   case neg =>
    replace c32 := Bool.eq_false_iff.mpr c32
    subst c32
    have H1 : (if ((rd_T45 l0 a1).f3) = 0 then (some (((rd_T45 l0 a1).f4) == 0)) else ((spec_hoNozzle.f ((rd_T45 l0 a1).f3)).bind fun t130 => (if t130 = true then ((spec_l1In.f ((rd_T45 l0 a1).f4) 1 3000).bind fun t131 => (if t131 = true then ((spec_hoNeeds.f kj4 ((rd_T45 l0 a1).f3) ((rd_T45 l0 a1).f4)).bind fun bt132 => (some bt132.2)) else (some false))) else (some false)))) = some r := by rw [if_neg (show ¬ (false = true) by decide)] at H; exact H
    clear H
    have H := H1
    clear H1
    by_cases c33 : ((rd_T45 l0 a1).f3) = 0
    case neg =>
     rw [if_neg c33] at H
     have c33b0 : (((rd_T45 l0 a1).f3) == 0) = false := beq_eq_false_iff_ne.mpr c33
     have c33b1 : (((rd_T45 l0 a1).f3) != 0) = true := bne_iff_ne.mpr c33
     replace H := Option.bind_eq_some_iff.mp H
     obtain ⟨t130, A350, H⟩ := H
     replace H : (if t130 = true then ((spec_l1In.f ((rd_T45 l0 a1).f4) 1 3000).bind fun t131 => (if t131 = true then ((spec_hoNeeds.f kj4 ((rd_T45 l0 a1).f3) ((rd_T45 l0 a1).f4)).bind fun bt132 => (some bt132.2)) else (some false))) else (some false)) = some r := H
     have A35 := Aside0.mk A350
     clear A350
     by_cases c36 : t130 = true
     case neg =>
      replace c36 := Bool.eq_false_iff.mpr c36
      subst c36
      have H1 : (some false) = some r := by rw [if_neg (show ¬ (false = true) by decide)] at H; exact H
      clear H
      have H := H1
      clear H1
      obtain rfl := Option.some.inj H
      have hcz42_0 : wc.cell? ⟨gb123, 0, none⟩ = some (.int .i64 ((rd_T45 l0 a1).f0)) := (blk_cell BK123.out 0).trans rfl
      have hcz42_1 : wc.cell? ⟨gb123, 1, none⟩ = some (.int .i64 ((rd_T45 l0 a1).f1.f0)) := (blk_cell BK123.out 1).trans rfl
      have hcz42_2 : wc.cell? ⟨gb123, 2, none⟩ = some (.int .i64 ((rd_T45 l0 a1).f1.f1)) := (blk_cell BK123.out 2).trans rfl
      have hcz42_3 : wc.cell? ⟨gb123, 3, none⟩ = some (.int .i64 ((rd_T45 l0 a1).f2)) := (blk_cell BK123.out 3).trans rfl
      have hcz42_4 : wc.cell? ⟨gb123, 4, none⟩ = some (.int .i64 ((rd_T45 l0 a1).f3)) := (blk_cell BK123.out 4).trans rfl
      have hcz42_5 : wc.cell? ⟨gb123, 5, none⟩ = some (.int .i64 ((rd_T45 l0 a1).f4)) := (blk_cell BK123.out 5).trans rfl
      have hfz42_0 := blk_frozen BK123.out 0
      have hfz42_1 := blk_frozen BK123.out 1
      have hfz42_2 := blk_frozen BK123.out 2
      have hfz42_3 := blk_frozen BK123.out 3
      have hfz42_4 := blk_frozen BK123.out 4
      have hfz42_5 := blk_frozen BK123.out 5
      go_wp2_with (first | ((with_reducible refine gate_callee (f := 84) rfl ?_); refine goesL_ (some 52) rfl rfl Try.func84 (by kernel_rfl) rfl #[.int .i64 ((rd_T45 l0 a1).f3)] rfl (by (try simp only [List.map_toArray, List.map_cons, List.map_nil]); first | done | rfl | (simp only [List.length_drop, List.length_take]; rfl)) ?_; (with_reducible refine (spec_hoNozzle.calls ((rd_T45 l0 a1).f3) false _ A35.out).mono ?_); rintro e w' ⟨rfl, ⟨nd, rfl⟩⟩; refine ⟨_, rfl, ?_⟩))
      go_ret
      exact ⟨by first | rfl | (simp [errW_none, errW_some] <;> rfl) | (simp [*, errW_none, errW_some] <;> rfl), by repeat (first | (with_reducible first | exact HB.out | apply below_alloc | apply pw_below_drewN | apply below_drew1 | refine below_set ?_ GE123.out) | exact HB.out)⟩
     subst c36
     have H1 : ((spec_l1In.f ((rd_T45 l0 a1).f4) 1 3000).bind fun t131 => (if t131 = true then ((spec_hoNeeds.f kj4 ((rd_T45 l0 a1).f3) ((rd_T45 l0 a1).f4)).bind fun bt132 => (some bt132.2)) else (some false))) = some r := by rw [if_pos rfl] at H; exact H
     clear H
     have H := H1
     clear H1
     replace H := Option.bind_eq_some_iff.mp H
     obtain ⟨t131, A370, H⟩ := H
     replace H : (if t131 = true then ((spec_hoNeeds.f kj4 ((rd_T45 l0 a1).f3) ((rd_T45 l0 a1).f4)).bind fun bt132 => (some bt132.2)) else (some false)) = some r := H
     have A37 := Aside0.mk A370
     clear A370
     by_cases c38 : t131 = true
     case neg =>
      replace c38 := Bool.eq_false_iff.mpr c38
      subst c38
      have H1 : (some false) = some r := by rw [if_neg (show ¬ (false = true) by decide)] at H; exact H
      clear H
      have H := H1
      clear H1
      obtain rfl := Option.some.inj H
      have hcz41_0 : wc.cell? ⟨gb123, 0, none⟩ = some (.int .i64 ((rd_T45 l0 a1).f0)) := (blk_cell BK123.out 0).trans rfl
      have hcz41_1 : wc.cell? ⟨gb123, 1, none⟩ = some (.int .i64 ((rd_T45 l0 a1).f1.f0)) := (blk_cell BK123.out 1).trans rfl
      have hcz41_2 : wc.cell? ⟨gb123, 2, none⟩ = some (.int .i64 ((rd_T45 l0 a1).f1.f1)) := (blk_cell BK123.out 2).trans rfl
      have hcz41_3 : wc.cell? ⟨gb123, 3, none⟩ = some (.int .i64 ((rd_T45 l0 a1).f2)) := (blk_cell BK123.out 3).trans rfl
      have hcz41_4 : wc.cell? ⟨gb123, 4, none⟩ = some (.int .i64 ((rd_T45 l0 a1).f3)) := (blk_cell BK123.out 4).trans rfl
      have hcz41_5 : wc.cell? ⟨gb123, 5, none⟩ = some (.int .i64 ((rd_T45 l0 a1).f4)) := (blk_cell BK123.out 5).trans rfl
      have hfz41_0 := blk_frozen BK123.out 0
      have hfz41_1 := blk_frozen BK123.out 1
      have hfz41_2 := blk_frozen BK123.out 2
      have hfz41_3 := blk_frozen BK123.out 3
      have hfz41_4 := blk_frozen BK123.out 4
      have hfz41_5 := blk_frozen BK123.out 5
      go_wp2_with (first | ((with_reducible refine gate_callee (f := 84) rfl ?_); refine goesL_ (some 52) rfl rfl Try.func84 (by kernel_rfl) rfl #[.int .i64 ((rd_T45 l0 a1).f3)] rfl (by (try simp only [List.map_toArray, List.map_cons, List.map_nil]); first | done | rfl | (simp only [List.length_drop, List.length_take]; rfl)) ?_; (with_reducible refine (spec_hoNozzle.calls ((rd_T45 l0 a1).f3) true _ A35.out).mono ?_); rintro e w' ⟨rfl, ⟨nd, rfl⟩⟩; refine ⟨_, rfl, ?_⟩) | (go_at_call 67; (with_reducible refine (spec_l1In.calls ((rd_T45 l0 a1).f4) 1 3000 false _ A37.out).mono ?_); rintro e w' ⟨rfl, ⟨nd, rfl⟩⟩))
      go_ret
      exact ⟨by first | rfl | (simp [errW_none, errW_some] <;> rfl) | (simp [*, errW_none, errW_some] <;> rfl), by repeat (first | (with_reducible first | exact HB.out | apply below_alloc | apply pw_below_drewN | apply below_drew1 | refine below_set ?_ GE123.out) | exact HB.out)⟩
     subst c38
     have H1 : ((spec_hoNeeds.f kj4 ((rd_T45 l0 a1).f3) ((rd_T45 l0 a1).f4)).bind fun bt132 => (some bt132.2)) = some r := by rw [if_pos rfl] at H; exact H
     clear H
     have H := H1
     clear H1
     replace H := Option.bind_eq_some_iff.mp H
     obtain ⟨⟨t132, t133⟩, A390, H⟩ := H
     replace H : (some t133) = some r := H
     have A39 := Aside0.mk A390
     clear A390
     obtain rfl := Option.some.inj H
     have hcz40_0 : wc.cell? ⟨gb123, 0, none⟩ = some (.int .i64 ((rd_T45 l0 a1).f0)) := (blk_cell BK123.out 0).trans rfl
     have hcz40_1 : wc.cell? ⟨gb123, 1, none⟩ = some (.int .i64 ((rd_T45 l0 a1).f1.f0)) := (blk_cell BK123.out 1).trans rfl
     have hcz40_2 : wc.cell? ⟨gb123, 2, none⟩ = some (.int .i64 ((rd_T45 l0 a1).f1.f1)) := (blk_cell BK123.out 2).trans rfl
     have hcz40_3 : wc.cell? ⟨gb123, 3, none⟩ = some (.int .i64 ((rd_T45 l0 a1).f2)) := (blk_cell BK123.out 3).trans rfl
     have hcz40_4 : wc.cell? ⟨gb123, 4, none⟩ = some (.int .i64 ((rd_T45 l0 a1).f3)) := (blk_cell BK123.out 4).trans rfl
     have hcz40_5 : wc.cell? ⟨gb123, 5, none⟩ = some (.int .i64 ((rd_T45 l0 a1).f4)) := (blk_cell BK123.out 5).trans rfl
     have hfz40_0 := blk_frozen BK123.out 0
     have hfz40_1 := blk_frozen BK123.out 1
     have hfz40_2 := blk_frozen BK123.out 2
     have hfz40_3 := blk_frozen BK123.out 3
     have hfz40_4 := blk_frozen BK123.out 4
     have hfz40_5 := blk_frozen BK123.out 5
     go_wp2_with (first | ((with_reducible refine gate_callee (f := 84) rfl ?_); refine goesL_ (some 52) rfl rfl Try.func84 (by kernel_rfl) rfl #[.int .i64 ((rd_T45 l0 a1).f3)] rfl (by (try simp only [List.map_toArray, List.map_cons, List.map_nil]); first | done | rfl | (simp only [List.length_drop, List.length_take]; rfl)) ?_; (with_reducible refine (spec_hoNozzle.calls ((rd_T45 l0 a1).f3) true _ A35.out).mono ?_); rintro e w' ⟨rfl, ⟨nd, rfl⟩⟩; refine ⟨_, rfl, ?_⟩) | (go_at_call 67; (with_reducible refine (spec_l1In.calls ((rd_T45 l0 a1).f4) 1 3000 true _ A37.out).mono ?_); rintro e w' ⟨rfl, ⟨nd, rfl⟩⟩) | ((with_reducible refine gate_callee (f := 80) rfl ?_); refine goesL_ (some 65) rfl rfl Try.func80 (by kernel_rfl) rfl #[.int .i64 ((rd_T45 l0 a1).f3), .int .i64 ((rd_T45 l0 a1).f4)] rfl (by (try simp only [List.map_toArray, List.map_cons, List.map_nil]); first | done | rfl | (simp only [List.length_drop, List.length_take]; rfl)) ?_; (with_reducible refine (spec_hoNeeds.calls kj4 ((rd_T45 l0 a1).f3) ((rd_T45 l0 a1).f4) t132 t133 _ A39.out).mono ?_); rintro e w' ⟨rfl, ⟨nd, rfl⟩⟩; refine ⟨_, rfl, ?_⟩))
     go_ret
     exact ⟨by first | rfl | (simp [errW_none, errW_some] <;> rfl) | (simp [*, errW_none, errW_some] <;> rfl), by repeat (first | (with_reducible first | exact HB.out | apply below_alloc | apply pw_below_drewN | apply below_drew1 | refine below_set ?_ GE123.out) | exact HB.out)⟩
    rw [if_pos c33] at H
    have c33b0 : (((rd_T45 l0 a1).f3) == 0) = true := beq_iff_eq.mpr c33
    have c33b1 : (((rd_T45 l0 a1).f3) != 0) = false := bne_eq_false_iff_eq.mpr c33
    clear c33
    obtain rfl := Option.some.inj H
    have hcz34_0 : wc.cell? ⟨gb123, 0, none⟩ = some (.int .i64 ((rd_T45 l0 a1).f0)) := (blk_cell BK123.out 0).trans rfl
    have hcz34_1 : wc.cell? ⟨gb123, 1, none⟩ = some (.int .i64 ((rd_T45 l0 a1).f1.f0)) := (blk_cell BK123.out 1).trans rfl
    have hcz34_2 : wc.cell? ⟨gb123, 2, none⟩ = some (.int .i64 ((rd_T45 l0 a1).f1.f1)) := (blk_cell BK123.out 2).trans rfl
    have hcz34_3 : wc.cell? ⟨gb123, 3, none⟩ = some (.int .i64 ((rd_T45 l0 a1).f2)) := (blk_cell BK123.out 3).trans rfl
    have hcz34_4 : wc.cell? ⟨gb123, 4, none⟩ = some (.int .i64 ((rd_T45 l0 a1).f3)) := (blk_cell BK123.out 4).trans rfl
    have hcz34_5 : wc.cell? ⟨gb123, 5, none⟩ = some (.int .i64 ((rd_T45 l0 a1).f4)) := (blk_cell BK123.out 5).trans rfl
    have hfz34_0 := blk_frozen BK123.out 0
    have hfz34_1 := blk_frozen BK123.out 1
    have hfz34_2 := blk_frozen BK123.out 2
    have hfz34_3 := blk_frozen BK123.out 3
    have hfz34_4 := blk_frozen BK123.out 4
    have hfz34_5 := blk_frozen BK123.out 5
    go_wp2
    go_ret
    exact ⟨by first | rfl | (simp [errW_none, errW_some] <;> rfl) | (simp [*, errW_none, errW_some] <;> rfl), by repeat (first | (with_reducible first | exact HB.out | apply below_alloc | apply pw_below_drewN | apply below_drew1 | refine below_set ?_ GE123.out) | exact HB.out)⟩
   subst c32
   have H1 : (some false) = some r := by rw [if_pos rfl] at H; exact H
   clear H
   have H := H1
   clear H1
   obtain rfl := Option.some.inj H
   go_wp2
   go_ret
   exact ⟨by first | rfl | (simp [errW_none, errW_some] <;> rfl) | (simp [*, errW_none, errW_some] <;> rfl), by repeat (first | (with_reducible first | exact HB.out | apply below_alloc | apply pw_below_drewN | apply below_drew1 | refine below_set ?_ GE123.out) | exact HB.out)⟩

end Go.Proofs.Ytenfngleiohbhaa.P
