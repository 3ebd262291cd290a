/- Written by a program of this session (wip/p2) out of the translation: plain Lean functions, and that the calls of the Go functions come to what these say. Conditions: as each contract states. -/
import Derived.Test.YtjffblojognlbaaPx0
import Derived.Test.YtjffblojognlbaaPx3
import Derived.Test.YtjffblojognlbaaPx17
import Derived.Test.YtjffblojognlbaaPx37
namespace Go.Proofs.Ytjffblojognlbaa.P
open Go.RowKit Go.Proofs.YtjffblojognlbaaW.PrintWords Go.Proofs.YtjffblojognlbaaW.PrintLast Go.Proofs.YtjffblojognlbaaW.PrintMore
attribute [local go_sem] max2_int min2_int max_two min_two max_three min_three max_four min_four   -- for this text's walks alone
set_option linter.unusedVariables false
set_option linter.unusedSimpArgs false

/-! ### impl_GreatestRelayFlow: function 32 -/
mutual
def impl_GreatestRelayFlow.j0 : Nat → List (S71) → Int → Bool → Int → Int → Int → Int → Option (Int × Bool)
  | 0, _, _, _, _, _, _, _ => none
  | k + 1, x0, x2, x25, x382000, x382001, x382002, x382003 => if x25 = true then (some (0, false)) else (impl_GreatestRelayFlow.l0 k x0 x2 0 3000 x382000 x382001 x382002 x382003)
def impl_GreatestRelayFlow.l0 : Nat → List (S71) → Int → Int → Int → Int → Int → Int → Int → Option (Int × Bool)
  | 0, _, _, _, _, _, _, _, _ => none
  | k + 1, x0, x2, x8, x9, x382000, x382001, x382002, x382003 => if x8 < x9 then ((impl_pumpPlaces.f k x0 x382000 (wrap64 (Int.tdiv (wrap64 ((wrap64 (x8 + x9)) + 1)) 2)) x382002 x382003).bind fun bt385 => (if bt385.2 = true then (if (bt385.1.length : Int) ≤ x2 then (impl_GreatestRelayFlow.l0 k x0 x2 (wrap64 (Int.tdiv (wrap64 ((wrap64 (x8 + x9)) + 1)) 2)) x9 x382000 (wrap64 (Int.tdiv (wrap64 ((wrap64 (x8 + x9)) + 1)) 2)) x382002 x382003) else (impl_GreatestRelayFlow.l0 k x0 x2 x8 (wrap64 ((wrap64 (Int.tdiv (wrap64 ((wrap64 (x8 + x9)) + 1)) 2)) - 1)) x382000 (wrap64 (Int.tdiv (wrap64 ((wrap64 (x8 + x9)) + 1)) 2)) x382002 x382003)) else (impl_GreatestRelayFlow.l0 k x0 x2 x8 (wrap64 ((wrap64 (Int.tdiv (wrap64 ((wrap64 (x8 + x9)) + 1)) 2)) - 1)) x382000 (wrap64 (Int.tdiv (wrap64 ((wrap64 (x8 + x9)) + 1)) 2)) x382002 x382003))) else (some (x8, decide (x8 > 0)))
end
def impl_GreatestRelayFlow.f (k : Nat) (l0 : List (S71)) (a1_0 : Int) (a1_1 : Int) (a1_2 : Int) (a1_3 : Int) (a2 : Int) : Option (Int × Bool) := (impl_isProfile.f k l0).bind fun t382 => (if t382 = true then ((impl_isRelay.f a1_0 a1_1 a1_2 a1_3).bind fun t383 => (if t383 = true then ((impl_inside.f a2 1 40).bind fun t384 => (impl_GreatestRelayFlow.j0 k l0 a2 (!t384) a1_0 a1_1 a1_2 a1_3)) else (impl_GreatestRelayFlow.j0 k l0 a2 true a1_0 a1_1 a1_2 a1_3))) else (impl_GreatestRelayFlow.j0 k l0 a2 true a1_0 a1_1 a1_2 a1_3))
theorem impl_GreatestRelayFlow.mono_l : ∀ k, (∀ y0 y1 y2 y3 y4 y5 y6, LeO (impl_GreatestRelayFlow.j0 k y0 y1 y2 y3 y4 y5 y6) (impl_GreatestRelayFlow.j0 (k + 1) y0 y1 y2 y3 y4 y5 y6)) ∧ (∀ y0 y1 y2 y3 y4 y5 y6 y7, LeO (impl_GreatestRelayFlow.l0 k y0 y1 y2 y3 y4 y5 y6 y7) (impl_GreatestRelayFlow.l0 (k + 1) y0 y1 y2 y3 y4 y5 y6 y7))
 | 0 => ⟨fun _ _ _ _ _ _ _ r h => by simp [impl_GreatestRelayFlow.j0] at h, fun _ _ _ _ _ _ _ _ r h => by simp [impl_GreatestRelayFlow.l0] at h⟩
 | k + 1 => by
  obtain ⟨ih0, ih1⟩ := impl_GreatestRelayFlow.mono_l k
  refine ⟨?_, ?_⟩
  · intro y0 y1 y2 y3 y4 y5 y6
    unfold impl_GreatestRelayFlow.j0
    repeat' first
    | (with_reducible exact ih0 _ _ _ _ _ _ _)
    | (with_reducible exact ih1 _ _ _ _ _ _ _ _)
    | (with_reducible exact impl_isProfile.mono _ _)
    | (with_reducible exact impl_pumpPlaces.mono _ _ _ _ _ _)
    | (with_reducible exact LeO.refl _)
    | (with_reducible exact LeO.none _)
    | (with_reducible refine LeO.ite ?_ ?_)
    | (with_reducible refine LeO.bind ?_ (fun _ => ?_))
    | exact ih0 _ _ _ _ _ _ _
    | exact ih1 _ _ _ _ _ _ _ _
    | exact impl_isProfile.mono _ _
    | exact impl_pumpPlaces.mono _ _ _ _ _ _
    | exact LeO.none _
    | refine LeO.ite ?_ ?_
    | refine LeO.bind ?_ (fun _ => ?_)
  · intro y0 y1 y2 y3 y4 y5 y6 y7
    unfold impl_GreatestRelayFlow.l0
    repeat' first
    | (with_reducible exact ih0 _ _ _ _ _ _ _)
    | (with_reducible exact ih1 _ _ _ _ _ _ _ _)
    | (with_reducible exact impl_isProfile.mono _ _)
    | (with_reducible exact impl_pumpPlaces.mono _ _ _ _ _ _)
    | (with_reducible exact LeO.refl _)
    | (with_reducible exact LeO.none _)
    | (with_reducible refine LeO.ite ?_ ?_)
    | (with_reducible refine LeO.bind ?_ (fun _ => ?_))
    | exact ih0 _ _ _ _ _ _ _
    | exact ih1 _ _ _ _ _ _ _ _
    | exact impl_isProfile.mono _ _
    | exact impl_pumpPlaces.mono _ _ _ _ _ _
    | exact LeO.none _
    | refine LeO.ite ?_ ?_
    | refine LeO.bind ?_ (fun _ => ?_)
theorem impl_GreatestRelayFlow.mono : ∀ a0 a1 a2 a3 a4 a5 k, LeO (impl_GreatestRelayFlow.f k a0 a1 a2 a3 a4 a5) (impl_GreatestRelayFlow.f (k + 1) a0 a1 a2 a3 a4 a5) := by
 intro a0 a1 a2 a3 a4 a5 k
 obtain ⟨ih0, ih1⟩ := impl_GreatestRelayFlow.mono_l k
 unfold impl_GreatestRelayFlow.f
 repeat' first
  | (with_reducible exact ih0 _ _ _ _ _ _ _)
  | (with_reducible exact ih1 _ _ _ _ _ _ _ _)
  | (with_reducible exact impl_isProfile.mono _ _)
  | (with_reducible exact impl_pumpPlaces.mono _ _ _ _ _ _)
  | (with_reducible exact LeO.refl _)
  | (with_reducible exact LeO.none _)
  | (with_reducible refine LeO.ite ?_ ?_)
  | (with_reducible refine LeO.bind ?_ (fun _ => ?_))
  | exact ih0 _ _ _ _ _ _ _
  | exact ih1 _ _ _ _ _ _ _ _
  | exact impl_isProfile.mono _ _
  | exact impl_pumpPlaces.mono _ _ _ _ _ _
  | exact LeO.none _
  | refine LeO.ite ?_ ?_
  | refine LeO.bind ?_ (fun _ => ?_)
set_option maxHeartbeats 8000000 in
set_option maxRecDepth 100000 in
theorem impl_GreatestRelayFlow.calls (k : Nat) (A0 : Option Addr) (c0 : Nat) (l0 : List (S71)) (a1_0 : Int) (a1_1 : Int) (a1_2 : Int) (a1_3 : Int) (a2 : Int) (r1 : Int) (r2 : Bool) (w : World) (hr0 : Kd.C k71 w A0 l0.length l0) (hc0 : l0.length ≤ c0) (h : impl_GreatestRelayFlow.f k l0 a1_0 a1_1 a1_2 a1_3 a2 = some (r1, r2)) :
  Calls Try.prog 32 #[.slice A0 l0.length c0, .agg #[.int .i64 a1_0, .int .i64 a1_1, .int .i64 a1_2, .int .i64 a1_3], .int .i64 a2] w fun e w' => e = .returned (.tuple #[.int .i64 r1, .bool r2]) ∧ Below w.heap.size w w' := by
 have hu25 := Try.underlying25
 have HR0 := Aside0.mk hr0
 have HC0 := Aside0.mk hc0
 clear hr0 hc0
 have HB := Aside0.mk (Below.refl w.heap.size w)
 have H : ((impl_isProfile.f k l0).bind fun t382 => (if t382 = true then ((impl_isRelay.f a1_0 a1_1 a1_2 a1_3).bind fun t383 => (if t383 = true then ((impl_inside.f a2 1 40).bind fun t384 => (impl_GreatestRelayFlow.j0 k l0 a2 (!t384) a1_0 a1_1 a1_2 a1_3)) else (impl_GreatestRelayFlow.j0 k l0 a2 true a1_0 a1_1 a1_2 a1_3))) else (impl_GreatestRelayFlow.j0 k l0 a2 true a1_0 a1_1 a1_2 a1_3))) = some (r1, r2) := h
 clear h
 have HC4 := Aside0.mk H
 clear H
 go_enter Try.func32, Try.ntmps32
 go_upto_region 1 with (first | ((with_reducible refine gate_dst (N := 4) rfl ?_); (try (refine gate_guard (by rfl) ?_; dsimp only)); refine box_event ?hg (N := 4) ?hd (cs := #[.int .i64 a1_0, .int .i64 a1_1, .int .i64 a1_2, .int .i64 a1_3]) (t := 25) ?hr ?_; (case hd => rfl); (case hg => rfl); (case hr => first | (go_simp; done) | (go_simp; rfl)); intro gb381 hg w5 hbox hb; have n0_ := Aside0.mk (below_step (by repeat (first | (with_reducible first | exact HB.out | apply below_alloc | apply pw_below_drewN | apply below_drew1) | exact HB.out)) hb); have n1_ := Aside0.mk (hbox); have n2_ := Aside0.mk ((by rw [hg]; exact (below_size (by repeat (first | (with_reducible first | exact HB.out | apply below_alloc | apply pw_below_drewN | apply below_drew1) | exact HB.out))) : w.heap.size ≤ gb381)); have n3_ := Aside0.mk ((by rw [hg]; exact (below_size (by repeat (first | (with_reducible first | exact HB.out | apply below_alloc | apply pw_below_drewN | apply below_drew1) | exact HB.out))) : w.heap.size ≤ gb381)); clear HB; have HB := n0_; have BK381 := n1_; have GW381 := n2_; have GE381 := n3_; clear n0_ n1_ n2_ n3_; clear hb hbox hg))
 (try simp only [Act.put, List.setIfInBounds_toArray, List.set_cons_zero, List.set_cons_succ])
 go_cut [25] (fun v25 wc => ∃ (kq : Nat) (x25_3 : Bool), v25 = .bool x25_3 ∧ Aside0 (impl_GreatestRelayFlow.j0 kq l0 a2 x25_3 a1_0 a1_1 a1_2 a1_3 = some (r1, r2)) ∧ Aside0 (kq ≤ k) ∧ Aside0 (wc.heap[gb381]? = some (.cells #[.int .i64 a1_0, .int .i64 a1_1, .int .i64 a1_2, .int .i64 a1_3] 25 (0, 0))) ∧ Aside0 (Below w.heap.size w wc))
 case first =>
  have H := HC4.out
  clear HC4
  replace H := Option.bind_eq_some_iff.mp H
  obtain ⟨t382, A60, H⟩ := H
  replace H : (if t382 = true then ((impl_isRelay.f a1_0 a1_1 a1_2 a1_3).bind fun t383 => (if t383 = true then ((impl_inside.f a2 1 40).bind fun t384 => (impl_GreatestRelayFlow.j0 k l0 a2 (!t384) a1_0 a1_1 a1_2 a1_3)) else (impl_GreatestRelayFlow.j0 k l0 a2 true a1_0 a1_1 a1_2 a1_3))) else (impl_GreatestRelayFlow.j0 k l0 a2 true a1_0 a1_1 a1_2 a1_3)) = some (r1, r2) := H
  have A6 := Aside0.mk A60
  clear A60
  by_cases c7 : t382 = true
  case neg =>
   replace c7 := Bool.eq_false_iff.mpr c7
   subst c7
   have H1 : (impl_GreatestRelayFlow.j0 k l0 a2 true a1_0 a1_1 a1_2 a1_3) = some (r1, r2) := by rw [if_neg (show ¬ (false = true) by decide)] at H; exact H
   clear H
   have H := H1
   clear H1
   have H' := Aside0.mk H
   clear H
   go_wp2_with (first | ((with_reducible refine gate_callee (f := 63) rfl ?_); refine goesL_ (some 14) rfl rfl Try.func63 (by kernel_rfl) rfl #[.slice A0 l0.length c0] rfl (by (try simp only [List.map_toArray, List.map_cons, List.map_nil]); first | done | rfl | (simp only [List.length_drop, List.length_take]; rfl)) ?_; (with_reducible refine (impl_isProfile.calls k _ _ l0 false _ ?side1 ?side2 A6.out).mono ?_); (case side1 => repeat (first | exact (Kd.C_below HR0.out HB.out) | (with_reducible refine Kd.C_alloc ?_ _) | (with_reducible refine Kd.C_drewN ?_ _) | (with_reducible refine Kd.C_drew ?_))); (case side2 => exact HC0.out); rintro e w17 ⟨rfl, hb⟩; refine ⟨_, rfl, ?_⟩; have n0_ := Aside0.mk (blk_below (g := gb381) (o := .cells #[.int .i64 a1_0, .int .i64 a1_1, .int .i64 a1_2, .int .i64 a1_3] 25 (0, 0)) (by (with_reducible repeat (first | refine blk_drewN ?_ _ | refine blk_drew ?_ | refine blk_alloc ?_ _)); exact BK381.out) hb); have n1_ := Aside0.mk (below_step (by repeat (first | (with_reducible first | exact HB.out | apply below_alloc | apply pw_below_drewN | apply below_drew1 | refine below_set ?_ GE381.out) | exact HB.out)) hb); clear BK381; clear HB; have BK381 := n0_; have HB := n1_; clear n0_ n1_; (try clear hb); (try clear hb2); (try clear hk); (try clear hi)))
   go_meet
   case rel => exact ⟨_, (true), (by first | rfl | (simp; done) | (simp [*]; done)), H', ⟨by first | omega | exact Nat.le_refl _⟩, ⟨by (with_reducible repeat (first | refine blk_drewN ?_ _ | refine blk_drew ?_ | refine blk_alloc ?_ _)); exact BK381.out⟩, ⟨by repeat (first | (with_reducible first | exact HB.out | apply below_alloc | apply pw_below_drewN | apply below_drew1 | refine below_set ?_ GE381.out) | exact HB.out)⟩⟩
  subst c7
  have H1 : ((impl_isRelay.f a1_0 a1_1 a1_2 a1_3).bind fun t383 => (if t383 = true then ((impl_inside.f a2 1 40).bind fun t384 => (impl_GreatestRelayFlow.j0 k l0 a2 (!t384) a1_0 a1_1 a1_2 a1_3)) else (impl_GreatestRelayFlow.j0 k l0 a2 true a1_0 a1_1 a1_2 a1_3))) = some (r1, r2) := by rw [if_pos rfl] at H; exact H
  clear H
  have H := H1
  clear H1
  replace H := Option.bind_eq_some_iff.mp H
  obtain ⟨t383, A80, H⟩ := H
  replace H : (if t383 = true then ((impl_inside.f a2 1 40).bind fun t384 => (impl_GreatestRelayFlow.j0 k l0 a2 (!t384) a1_0 a1_1 a1_2 a1_3)) else (impl_GreatestRelayFlow.j0 k l0 a2 true a1_0 a1_1 a1_2 a1_3)) = some (r1, r2) := H
  have A8 := Aside0.mk A80
  clear A80
  by_cases c9 : t383 = true
  case neg =>
   replace c9 := Bool.eq_false_iff.mpr c9
   subst c9
   have H1 : (impl_GreatestRelayFlow.j0 k l0 a2 true a1_0 a1_1 a1_2 a1_3) = some (r1, r2) := by rw [if_neg (show ¬ (false = true) by decide)] at H; exact H
   clear H
   have H := H1
   clear H1
   have H' := Aside0.mk H
   clear H
   go_wp2_with (first | ((with_reducible refine gate_callee (f := 63) rfl ?_); refine goesL_ (some 14) rfl rfl Try.func63 (by kernel_rfl) rfl #[.slice A0 l0.length c0] rfl (by (try simp only [List.map_toArray, List.map_cons, List.map_nil]); first | done | rfl | (simp only [List.length_drop, List.length_take]; rfl)) ?_; (with_reducible refine (impl_isProfile.calls k _ _ l0 true _ ?side1 ?side2 A6.out).mono ?_); (case side1 => repeat (first | exact (Kd.C_below HR0.out HB.out) | (with_reducible refine Kd.C_alloc ?_ _) | (with_reducible refine Kd.C_drewN ?_ _) | (with_reducible refine Kd.C_drew ?_))); (case side2 => exact HC0.out); rintro e w14 ⟨rfl, hb⟩; refine ⟨_, rfl, ?_⟩; have n0_ := Aside0.mk (blk_below (g := gb381) (o := .cells #[.int .i64 a1_0, .int .i64 a1_1, .int .i64 a1_2, .int .i64 a1_3] 25 (0, 0)) (by (with_reducible repeat (first | refine blk_drewN ?_ _ | refine blk_drew ?_ | refine blk_alloc ?_ _)); exact BK381.out) hb); have n1_ := Aside0.mk (below_step (by repeat (first | (with_reducible first | exact HB.out | apply below_alloc | apply pw_below_drewN | apply below_drew1 | refine below_set ?_ GE381.out) | exact HB.out)) hb); clear BK381; clear HB; have BK381 := n0_; have HB := n1_; clear n0_ n1_; (try clear hb); (try clear hb2); (try clear hk); (try clear hi); have hcz15_0 : w14.cell? ⟨gb381, 0, none⟩ = some (.int .i64 a1_0) := (blk_cell BK381.out 0).trans rfl; have hcz15_1 : w14.cell? ⟨gb381, 1, none⟩ = some (.int .i64 a1_1) := (blk_cell BK381.out 1).trans rfl; have hcz15_2 : w14.cell? ⟨gb381, 2, none⟩ = some (.int .i64 a1_2) := (blk_cell BK381.out 2).trans rfl; have hcz15_3 : w14.cell? ⟨gb381, 3, none⟩ = some (.int .i64 a1_3) := (blk_cell BK381.out 3).trans rfl; have hfz15_0 := blk_frozen BK381.out 0; have hfz15_1 := blk_frozen BK381.out 1; have hfz15_2 := blk_frozen BK381.out 2; have hfz15_3 := blk_frozen BK381.out 3) | (go_at_call 56; (with_reducible refine (impl_isRelay.calls a1_0 a1_1 a1_2 a1_3 false _ A8.out).mono ?_); rintro e w16 ⟨rfl, hb⟩; have n0_ := Aside0.mk (blk_below (g := gb381) (o := .cells #[.int .i64 a1_0, .int .i64 a1_1, .int .i64 a1_2, .int .i64 a1_3] 25 (0, 0)) (by (with_reducible repeat (first | refine blk_drewN ?_ _ | refine blk_drew ?_ | refine blk_alloc ?_ _)); exact BK381.out) hb); have n1_ := Aside0.mk (below_step (by repeat (first | (with_reducible first | exact HB.out | apply below_alloc | apply pw_below_drewN | apply below_drew1 | refine below_set ?_ GE381.out) | exact HB.out)) hb); clear BK381; clear HB; have BK381 := n0_; have HB := n1_; clear n0_ n1_; (try clear hb); (try clear hb2); (try clear hk); (try clear hi)))
   go_meet
   case rel => exact ⟨_, (true), (by first | rfl | (simp; done) | (simp [*]; done)), H', ⟨by first | omega | exact Nat.le_refl _⟩, ⟨by (with_reducible repeat (first | refine blk_drewN ?_ _ | refine blk_drew ?_ | refine blk_alloc ?_ _)); exact BK381.out⟩, ⟨by repeat (first | (with_reducible first | exact HB.out | apply below_alloc | apply pw_below_drewN | apply below_drew1 | refine below_set ?_ GE381.out) | exact HB.out)⟩⟩
  subst c9
  have H1 : ((impl_inside.f a2 1 40).bind fun t384 => (impl_GreatestRelayFlow.j0 k l0 a2 (!t384) a1_0 a1_1 a1_2 a1_3)) = some (r1, r2) := by rw [if_pos rfl] at H; exact H
  clear H
  have H := H1
  clear H1
  replace H := Option.bind_eq_some_iff.mp H
  obtain ⟨t384, A100, H⟩ := H
  replace H : (impl_GreatestRelayFlow.j0 k l0 a2 (!t384) a1_0 a1_1 a1_2 a1_3) = some (r1, r2) := H
  have A10 := Aside0.mk A100
  clear A100
  have H' := Aside0.mk H
  clear H
  go_wp2_with (first | ((with_reducible refine gate_callee (f := 63) rfl ?_); refine goesL_ (some 14) rfl rfl Try.func63 (by kernel_rfl) rfl #[.slice A0 l0.length c0] rfl (by (try simp only [List.map_toArray, List.map_cons, List.map_nil]); first | done | rfl | (simp only [List.length_drop, List.length_take]; rfl)) ?_; (with_reducible refine (impl_isProfile.calls k _ _ l0 true _ ?side1 ?side2 A6.out).mono ?_); (case side1 => repeat (first | exact (Kd.C_below HR0.out HB.out) | (with_reducible refine Kd.C_alloc ?_ _) | (with_reducible refine Kd.C_drewN ?_ _) | (with_reducible refine Kd.C_drew ?_))); (case side2 => exact HC0.out); rintro e w11 ⟨rfl, hb⟩; refine ⟨_, rfl, ?_⟩; have n0_ := Aside0.mk (blk_below (g := gb381) (o := .cells #[.int .i64 a1_0, .int .i64 a1_1, .int .i64 a1_2, .int .i64 a1_3] 25 (0, 0)) (by (with_reducible repeat (first | refine blk_drewN ?_ _ | refine blk_drew ?_ | refine blk_alloc ?_ _)); exact BK381.out) hb); have n1_ := Aside0.mk (below_step (by repeat (first | (with_reducible first | exact HB.out | apply below_alloc | apply pw_below_drewN | apply below_drew1 | refine below_set ?_ GE381.out) | exact HB.out)) hb); clear BK381; clear HB; have BK381 := n0_; have HB := n1_; clear n0_ n1_; (try clear hb); (try clear hb2); (try clear hk); (try clear hi); have hcz12_0 : w11.cell? ⟨gb381, 0, none⟩ = some (.int .i64 a1_0) := (blk_cell BK381.out 0).trans rfl; have hcz12_1 : w11.cell? ⟨gb381, 1, none⟩ = some (.int .i64 a1_1) := (blk_cell BK381.out 1).trans rfl; have hcz12_2 : w11.cell? ⟨gb381, 2, none⟩ = some (.int .i64 a1_2) := (blk_cell BK381.out 2).trans rfl; have hcz12_3 : w11.cell? ⟨gb381, 3, none⟩ = some (.int .i64 a1_3) := (blk_cell BK381.out 3).trans rfl; have hfz12_0 := blk_frozen BK381.out 0; have hfz12_1 := blk_frozen BK381.out 1; have hfz12_2 := blk_frozen BK381.out 2; have hfz12_3 := blk_frozen BK381.out 3) | (go_at_call 56; (with_reducible refine (impl_isRelay.calls a1_0 a1_1 a1_2 a1_3 true _ A8.out).mono ?_); rintro e w13 ⟨rfl, hb⟩; have n0_ := Aside0.mk (blk_below (g := gb381) (o := .cells #[.int .i64 a1_0, .int .i64 a1_1, .int .i64 a1_2, .int .i64 a1_3] 25 (0, 0)) (by (with_reducible repeat (first | refine blk_drewN ?_ _ | refine blk_drew ?_ | refine blk_alloc ?_ _)); exact BK381.out) hb); have n1_ := Aside0.mk (below_step (by repeat (first | (with_reducible first | exact HB.out | apply below_alloc | apply pw_below_drewN | apply below_drew1 | refine below_set ?_ GE381.out) | exact HB.out)) hb); clear BK381; clear HB; have BK381 := n0_; have HB := n1_; clear n0_ n1_; (try clear hb); (try clear hb2); (try clear hk); (try clear hi)) | (go_at_call 58; (with_reducible refine (impl_inside.calls a2 1 40 t384 _ A10.out).mono ?_); rintro e w' ⟨rfl, ⟨nd, rfl⟩⟩))
  go_meet
  case rel => exact ⟨_, (!t384), (by first | rfl | (simp; done) | (simp [*]; done)), H', ⟨by first | omega | exact Nat.le_refl _⟩, ⟨by (with_reducible repeat (first | refine blk_drewN ?_ _ | refine blk_drew ?_ | refine blk_alloc ?_ _)); exact BK381.out⟩, ⟨by repeat (first | (with_reducible first | exact HB.out | apply below_alloc | apply pw_below_drewN | apply below_drew1 | refine below_set ?_ GE381.out) | exact HB.out)⟩⟩
 case rest =>
  clear HC4
  try clear p2
  try clear c3
  try clear c6
  try clear c7
  try clear c9
  try clear hcz12_0
  try clear hcz12_1
  try clear hcz12_2
  try clear hcz12_3
  try clear hcz15_0
  try clear hcz15_1
  try clear hcz15_2
  try clear hcz15_3
  try clear hfz12_0
  try clear hfz12_1
  try clear hfz12_2
  try clear hfz12_3
  try clear hfz15_0
  try clear hfz15_1
  try clear hfz15_2
  try clear hfz15_3
  obtain ⟨kq, x25_3, rfl, HA, HJ3, BK381, HB⟩ := hcut
  cases kq with
  | zero => exact absurd HA.out (by simp [impl_GreatestRelayFlow.j0])
  | succ kj3 =>
   have H := HA.out
   clear HA
   simp only [impl_GreatestRelayFlow.j0] at H
   by_cases c18 : x25_3 = true
   case neg =>
    replace c18 := Bool.eq_false_iff.mpr c18
    subst c18
    have H1 : (impl_GreatestRelayFlow.l0 kj3 l0 a2 0 3000 a1_0 a1_1 a1_2 a1_3) = some (r1, r2) := by rw [if_neg (show ¬ (false = true) by decide)] at H; exact H
    clear H
    have H := H1
    clear H1
    have H' := Aside0.mk H
    clear H
    go_wp2
    go_loopg [8, 9] kj3 (fun kq v8 v9 w' => ∃ (x8_2 : Int) (x9_2 : Int) (x382001_2 : Int), v8 = .int .i64 x8_2 ∧ v9 = .int .i64 x9_2 ∧ Aside0 (impl_GreatestRelayFlow.l0 kq l0 a2 x8_2 x9_2 a1_0 x382001_2 a1_2 a1_3 = some (r1, r2)) ∧ Aside0 (kq ≤ kj3) ∧ Aside0 (w'.heap[gb381]? = some (.cells #[.int .i64 a1_0, .int .i64 x382001_2, .int .i64 a1_2, .int .i64 a1_3] 25 (0, 0))) ∧ Aside0 (Below w.heap.size w w'))
    case atStart => exact ⟨(0), (3000), (a1_1), (by first | rfl | (simp; done) | (simp [*]; done)), (by first | rfl | (simp; done) | (simp [*]; done)), H', ⟨Nat.le_refl _⟩, ⟨by (with_reducible repeat (first | refine blk_drewN ?_ _ | refine blk_drew ?_ | refine blk_alloc ?_ _)); exact BK381.out⟩, ⟨by repeat (first | (with_reducible first | exact HB.out | apply below_alloc | apply pw_below_drewN | apply below_drew1 | refine below_set ?_ GE381.out) | exact HB.out)⟩⟩
    case round =>
     clear H'
     try clear c1
     try clear p2
     try clear c3
     try clear c6
     try clear c7
     try clear c9
     try clear c18
     try clear hcz12_0
     try clear hcz12_1
     try clear hcz12_2
     try clear hcz12_3
     try clear hcz15_0
     try clear hcz15_1
     try clear hcz15_2
     try clear hcz15_3
     try clear hfz12_0
     try clear hfz12_1
     try clear hfz12_2
     try clear hfz12_3
     try clear hfz15_0
     try clear hfz15_1
     try clear hfz15_2
     try clear hfz15_3
     try clear p2
     obtain ⟨x8_2, x9_2, x382001_2, rfl, rfl, HA, HK2, BK381, HB⟩ := hrel
     cases gk with
     | zero => exact absurd HA.out (by simp [impl_GreatestRelayFlow.l0])
     | succ k2 =>
      have H := HA.out
      clear HA
      simp only [impl_GreatestRelayFlow.l0] at H
      by_cases c19 : x8_2 < x9_2
      case neg =>
       rw [if_neg c19] at H
       have c19b0 : decide (x8_2 < x9_2) = false := decide_eq_false c19
       clear c19
       simp only [Option.some.injEq, Prod.mk.injEq] at H
       obtain ⟨rfl, rfl⟩ := H
       go_wp2
       go_ret2
       exact ⟨by first | rfl | (simp [errW_none, errW_some] <;> rfl) | (simp [*, errW_none, errW_some] <;> rfl), by repeat (first | (with_reducible first | exact HB.out | apply below_alloc | apply pw_below_drewN | apply below_drew1 | refine below_set ?_ GE381.out) | exact HB.out)⟩
      rw [if_pos c19] at H
      have c19b0 : decide (x8_2 < x9_2) = true := decide_eq_true c19
      clear c19
      replace H := Option.bind_eq_some_iff.mp H
      obtain ⟨⟨t385, t388⟩, A200, H⟩ := H
      replace H : (if t388 = true then (if (t385.length : Int) ≤ a2 then (impl_GreatestRelayFlow.l0 k2 l0 a2 (wrap64 (Int.tdiv (wrap64 ((wrap64 (x8_2 + x9_2)) + 1)) 2)) x9_2 a1_0 (wrap64 (Int.tdiv (wrap64 ((wrap64 (x8_2 + x9_2)) + 1)) 2)) a1_2 a1_3) else (impl_GreatestRelayFlow.l0 k2 l0 a2 x8_2 (wrap64 ((wrap64 (Int.tdiv (wrap64 ((wrap64 (x8_2 + x9_2)) + 1)) 2)) - 1)) a1_0 (wrap64 (Int.tdiv (wrap64 ((wrap64 (x8_2 + x9_2)) + 1)) 2)) a1_2 a1_3)) else (impl_GreatestRelayFlow.l0 k2 l0 a2 x8_2 (wrap64 ((wrap64 (Int.tdiv (wrap64 ((wrap64 (x8_2 + x9_2)) + 1)) 2)) - 1)) a1_0 (wrap64 (Int.tdiv (wrap64 ((wrap64 (x8_2 + x9_2)) + 1)) 2)) a1_2 a1_3)) = some (r1, r2) := H
      have A20 := Aside0.mk A200
      clear A200
      by_cases c21 : t388 = true
      case neg =>
       replace c21 := Bool.eq_false_iff.mpr c21
       subst c21
       have H1 : (impl_GreatestRelayFlow.l0 k2 l0 a2 x8_2 (wrap64 ((wrap64 (Int.tdiv (wrap64 ((wrap64 (x8_2 + x9_2)) + 1)) 2)) - 1)) a1_0 (wrap64 (Int.tdiv (wrap64 ((wrap64 (x8_2 + x9_2)) + 1)) 2)) a1_2 a1_3) = some (r1, r2) := by rw [if_neg (show ¬ (false = true) by decide)] at H; exact H
       clear H
       have H := H1
       clear H1
       have H' := Aside0.mk H
       clear H
       have hcz29_0 : wr.cell? ⟨gb381, 0, none⟩ = some (.int .i64 a1_0) := (blk_cell BK381.out 0).trans rfl
       have hcz29_1 : wr.cell? ⟨gb381, 1, none⟩ = some (.int .i64 x382001_2) := (blk_cell BK381.out 1).trans rfl
       have hcz29_2 : wr.cell? ⟨gb381, 2, none⟩ = some (.int .i64 a1_2) := (blk_cell BK381.out 2).trans rfl
       have hcz29_3 : wr.cell? ⟨gb381, 3, none⟩ = some (.int .i64 a1_3) := (blk_cell BK381.out 3).trans rfl
       have hfz29_0 := blk_frozen BK381.out 0
       have hfz29_1 := blk_frozen BK381.out 1
       have hfz29_2 := blk_frozen BK381.out 2
       have hfz29_3 := blk_frozen BK381.out 3
       go_wp2_with (first | ((with_reducible refine gate_callee (f := 69) rfl ?_); refine goesL_ (some 39) rfl rfl Try.func69 (by kernel_rfl) rfl #[.slice A0 l0.length c0, .agg #[.int .i64 a1_0, .int .i64 (wrap64 (Int.tdiv (wrap64 ((wrap64 (x8_2 + x9_2)) + 1)) 2)), .int .i64 a1_2, .int .i64 a1_3]] rfl (by (try simp only [List.map_toArray, List.map_cons, List.map_nil]); first | done | rfl | (simp only [List.length_drop, List.length_take]; rfl)) ?_; (with_reducible refine (impl_pumpPlaces.calls k2 _ _ l0 a1_0 (wrap64 (Int.tdiv (wrap64 ((wrap64 (x8_2 + x9_2)) + 1)) 2)) a1_2 a1_3 t385 false _ ?side1 ?side2 A20.out).mono ?_); (case side1 => exact Kd.C_below HR0.out (by repeat (first | (with_reducible first | exact HB.out | apply below_alloc | apply pw_below_drewN | apply below_drew1 | refine below_set ?_ GE381.out) | exact HB.out))); (case side2 => exact HC0.out); rintro e w30 ⟨v386, rfl, ho0, hb⟩; refine ⟨_, rfl, ?_⟩; have n0_ := Aside0.mk (Kd.R_lower ho0 (below_size (by repeat (first | (with_reducible first | exact HB.out | apply below_alloc | apply pw_below_drewN | apply below_drew1 | refine below_set ?_ GE381.out) | exact HB.out)))); have n1_ := Aside0.mk (blk_below (g := gb381) (o := .cells #[.int .i64 a1_0, .int .i64 (wrap64 (Int.tdiv (wrap64 ((wrap64 (x8_2 + x9_2)) + 1)) 2)), .int .i64 a1_2, .int .i64 a1_3] 25 (0, 0)) (by (with_reducible repeat (first | refine blk_drewN ?_ _ | refine blk_drew ?_ | refine blk_alloc ?_ _)); refine blk_put (cs := #[.int .i64 a1_0, .int .i64 x382001_2, .int .i64 a1_2, .int .i64 a1_3]) ?_ 1 _ rfl; (with_reducible repeat (first | refine blk_drewN ?_ _ | refine blk_drew ?_ | refine blk_alloc ?_ _)); exact BK381.out) hb); have n2_ := Aside0.mk (below_step (by repeat (first | (with_reducible first | exact HB.out | apply below_alloc | apply pw_below_drewN | apply below_drew1 | refine below_set ?_ GE381.out) | exact HB.out)) hb); clear BK381; clear HB; have HO387 := n0_; have BK381 := n1_; have HB := n2_; clear n0_ n1_ n2_; (try clear hb); (try clear hb2); (try clear hk); (try clear hi); (try clear ho0)))
       go_roundg k2
       case measure => have := HJ3.out; have := HK2.out; omega
       case rel => exact ⟨(x8_2), (wrap64 ((wrap64 (Int.tdiv (wrap64 ((wrap64 (x8_2 + x9_2)) + 1)) 2)) - 1)), (wrap64 (Int.tdiv (wrap64 ((wrap64 (x8_2 + x9_2)) + 1)) 2)), (by first | rfl | (simp; done) | (simp [*]; done)), (by first | rfl | (simp; done) | (simp [*]; done)), H', ⟨by have := HJ3.out; have := HK2.out; omega⟩, ⟨by (with_reducible repeat (first | refine blk_drewN ?_ _ | refine blk_drew ?_ | refine blk_alloc ?_ _)); exact BK381.out⟩, ⟨by repeat (first | (with_reducible first | exact HB.out | apply below_alloc | apply pw_below_drewN | apply below_drew1 | refine below_set ?_ GE381.out) | exact HB.out)⟩⟩
      subst c21
      have H1 : (if (t385.length : Int) ≤ a2 then (impl_GreatestRelayFlow.l0 k2 l0 a2 (wrap64 (Int.tdiv (wrap64 ((wrap64 (x8_2 + x9_2)) + 1)) 2)) x9_2 a1_0 (wrap64 (Int.tdiv (wrap64 ((wrap64 (x8_2 + x9_2)) + 1)) 2)) a1_2 a1_3) else (impl_GreatestRelayFlow.l0 k2 l0 a2 x8_2 (wrap64 ((wrap64 (Int.tdiv (wrap64 ((wrap64 (x8_2 + x9_2)) + 1)) 2)) - 1)) a1_0 (wrap64 (Int.tdiv (wrap64 ((wrap64 (x8_2 + x9_2)) + 1)) 2)) a1_2 a1_3)) = some (r1, r2) := by rw [if_pos rfl] at H; exact H
      clear H
      have H := H1
      clear H1
      by_cases c22 : (t385.length : Int) ≤ a2
      case neg =>
       rw [if_neg c22] at H
       have c22b0 : decide ((t385.length : Int) ≤ a2) = false := decide_eq_false c22
       clear c22
       have H' := Aside0.mk H
       clear H
       have hcz26_0 : wr.cell? ⟨gb381, 0, none⟩ = some (.int .i64 a1_0) := (blk_cell BK381.out 0).trans rfl
       have hcz26_1 : wr.cell? ⟨gb381, 1, none⟩ = some (.int .i64 x382001_2) := (blk_cell BK381.out 1).trans rfl
       have hcz26_2 : wr.cell? ⟨gb381, 2, none⟩ = some (.int .i64 a1_2) := (blk_cell BK381.out 2).trans rfl
       have hcz26_3 : wr.cell? ⟨gb381, 3, none⟩ = some (.int .i64 a1_3) := (blk_cell BK381.out 3).trans rfl
       have hfz26_0 := blk_frozen BK381.out 0
       have hfz26_1 := blk_frozen BK381.out 1
       have hfz26_2 := blk_frozen BK381.out 2
       have hfz26_3 := blk_frozen BK381.out 3
       go_wp2_with (first | ((with_reducible refine gate_callee (f := 69) rfl ?_); refine goesL_ (some 39) rfl rfl Try.func69 (by kernel_rfl) rfl #[.slice A0 l0.length c0, .agg #[.int .i64 a1_0, .int .i64 (wrap64 (Int.tdiv (wrap64 ((wrap64 (x8_2 + x9_2)) + 1)) 2)), .int .i64 a1_2, .int .i64 a1_3]] rfl (by (try simp only [List.map_toArray, List.map_cons, List.map_nil]); first | done | rfl | (simp only [List.length_drop, List.length_take]; rfl)) ?_; (with_reducible refine (impl_pumpPlaces.calls k2 _ _ l0 a1_0 (wrap64 (Int.tdiv (wrap64 ((wrap64 (x8_2 + x9_2)) + 1)) 2)) a1_2 a1_3 t385 true _ ?side1 ?side2 A20.out).mono ?_); (case side1 => exact Kd.C_below HR0.out (by repeat (first | (with_reducible first | exact HB.out | apply below_alloc | apply pw_below_drewN | apply below_drew1 | refine below_set ?_ GE381.out) | exact HB.out))); (case side2 => exact HC0.out); rintro e w27 ⟨v386, rfl, ho0, hb⟩; refine ⟨_, rfl, ?_⟩; have n0_ := Aside0.mk (Kd.R_lower ho0 (below_size (by repeat (first | (with_reducible first | exact HB.out | apply below_alloc | apply pw_below_drewN | apply below_drew1 | refine below_set ?_ GE381.out) | exact HB.out)))); have n1_ := Aside0.mk (blk_below (g := gb381) (o := .cells #[.int .i64 a1_0, .int .i64 (wrap64 (Int.tdiv (wrap64 ((wrap64 (x8_2 + x9_2)) + 1)) 2)), .int .i64 a1_2, .int .i64 a1_3] 25 (0, 0)) (by (with_reducible repeat (first | refine blk_drewN ?_ _ | refine blk_drew ?_ | refine blk_alloc ?_ _)); refine blk_put (cs := #[.int .i64 a1_0, .int .i64 x382001_2, .int .i64 a1_2, .int .i64 a1_3]) ?_ 1 _ rfl; (with_reducible repeat (first | refine blk_drewN ?_ _ | refine blk_drew ?_ | refine blk_alloc ?_ _)); exact BK381.out) hb); have n2_ := Aside0.mk (below_step (by repeat (first | (with_reducible first | exact HB.out | apply below_alloc | apply pw_below_drewN | apply below_drew1 | refine below_set ?_ GE381.out) | exact HB.out)) hb); clear BK381; clear HB; have HO387 := n0_; have BK381 := n1_; have HB := n2_; clear n0_ n1_ n2_; (try clear hb); (try clear hb2); (try clear hk); (try clear hi); (try clear ho0); obtain ⟨Ao28, co28, eo28⟩ := Kd.R_slice HO387.out; subst eo28))
       go_roundg k2
       case measure => have := HJ3.out; have := HK2.out; omega
       case rel => exact ⟨(x8_2), (wrap64 ((wrap64 (Int.tdiv (wrap64 ((wrap64 (x8_2 + x9_2)) + 1)) 2)) - 1)), (wrap64 (Int.tdiv (wrap64 ((wrap64 (x8_2 + x9_2)) + 1)) 2)), (by first | rfl | (simp; done) | (simp [*]; done)), (by first | rfl | (simp; done) | (simp [*]; done)), H', ⟨by have := HJ3.out; have := HK2.out; omega⟩, ⟨by (with_reducible repeat (first | refine blk_drewN ?_ _ | refine blk_drew ?_ | refine blk_alloc ?_ _)); exact BK381.out⟩, ⟨by repeat (first | (with_reducible first | exact HB.out | apply below_alloc | apply pw_below_drewN | apply below_drew1 | refine below_set ?_ GE381.out) | exact HB.out)⟩⟩
      rw [if_pos c22] at H
      have c22b0 : decide ((t385.length : Int) ≤ a2) = true := decide_eq_true c22
      clear c22
      have H' := Aside0.mk H
      clear H
      have hcz23_0 : wr.cell? ⟨gb381, 0, none⟩ = some (.int .i64 a1_0) := (blk_cell BK381.out 0).trans rfl
      have hcz23_1 : wr.cell? ⟨gb381, 1, none⟩ = some (.int .i64 x382001_2) := (blk_cell BK381.out 1).trans rfl
      have hcz23_2 : wr.cell? ⟨gb381, 2, none⟩ = some (.int .i64 a1_2) := (blk_cell BK381.out 2).trans rfl
      have hcz23_3 : wr.cell? ⟨gb381, 3, none⟩ = some (.int .i64 a1_3) := (blk_cell BK381.out 3).trans rfl
      have hfz23_0 := blk_frozen BK381.out 0
      have hfz23_1 := blk_frozen BK381.out 1
      have hfz23_2 := blk_frozen BK381.out 2
      have hfz23_3 := blk_frozen BK381.out 3
      go_wp2_with (first | ((with_reducible refine gate_callee (f := 69) rfl ?_); refine goesL_ (some 39) rfl rfl Try.func69 (by kernel_rfl) rfl #[.slice A0 l0.length c0, .agg #[.int .i64 a1_0, .int .i64 (wrap64 (Int.tdiv (wrap64 ((wrap64 (x8_2 + x9_2)) + 1)) 2)), .int .i64 a1_2, .int .i64 a1_3]] rfl (by (try simp only [List.map_toArray, List.map_cons, List.map_nil]); first | done | rfl | (simp only [List.length_drop, List.length_take]; rfl)) ?_; (with_reducible refine (impl_pumpPlaces.calls k2 _ _ l0 a1_0 (wrap64 (Int.tdiv (wrap64 ((wrap64 (x8_2 + x9_2)) + 1)) 2)) a1_2 a1_3 t385 true _ ?side1 ?side2 A20.out).mono ?_); (case side1 => exact Kd.C_below HR0.out (by repeat (first | (with_reducible first | exact HB.out | apply below_alloc | apply pw_below_drewN | apply below_drew1 | refine below_set ?_ GE381.out) | exact HB.out))); (case side2 => exact HC0.out); rintro e w24 ⟨v386, rfl, ho0, hb⟩; refine ⟨_, rfl, ?_⟩; have n0_ := Aside0.mk (Kd.R_lower ho0 (below_size (by repeat (first | (with_reducible first | exact HB.out | apply below_alloc | apply pw_below_drewN | apply below_drew1 | refine below_set ?_ GE381.out) | exact HB.out)))); have n1_ := Aside0.mk (blk_below (g := gb381) (o := .cells #[.int .i64 a1_0, .int .i64 (wrap64 (Int.tdiv (wrap64 ((wrap64 (x8_2 + x9_2)) + 1)) 2)), .int .i64 a1_2, .int .i64 a1_3] 25 (0, 0)) (by (with_reducible repeat (first | refine blk_drewN ?_ _ | refine blk_drew ?_ | refine blk_alloc ?_ _)); refine blk_put (cs := #[.int .i64 a1_0, .int .i64 x382001_2, .int .i64 a1_2, .int .i64 a1_3]) ?_ 1 _ rfl; (with_reducible repeat (first | refine blk_drewN ?_ _ | refine blk_drew ?_ | refine blk_alloc ?_ _)); exact BK381.out) hb); have n2_ := Aside0.mk (below_step (by repeat (first | (with_reducible first | exact HB.out | apply below_alloc | apply pw_below_drewN | apply below_drew1 | refine below_set ?_ GE381.out) | exact HB.out)) hb); clear BK381; clear HB; have HO387 := n0_; have BK381 := n1_; have HB := n2_; clear n0_ n1_ n2_; (try clear hb); (try clear hb2); (try clear hk); (try clear hi); (try clear ho0); obtain ⟨Ao25, co25, eo25⟩ := Kd.R_slice HO387.out; subst eo25))
      go_roundg k2
      case measure => have := HJ3.out; have := HK2.out; omega
      case rel => exact ⟨(wrap64 (Int.tdiv (wrap64 ((wrap64 (x8_2 + x9_2)) + 1)) 2)), (x9_2), (wrap64 (Int.tdiv (wrap64 ((wrap64 (x8_2 + x9_2)) + 1)) 2)), (by first | rfl | (simp; done) | (simp [*]; done)), (by first | rfl | (simp; done) | (simp [*]; done)), H', ⟨by have := HJ3.out; have := HK2.out; omega⟩, ⟨by (with_reducible repeat (first | refine blk_drewN ?_ _ | refine blk_drew ?_ | refine blk_alloc ?_ _)); exact BK381.out⟩, ⟨by repeat (first | (with_reducible first | exact HB.out | apply below_alloc | apply pw_below_drewN | apply below_drew1 | refine below_set ?_ GE381.out) | exact HB.out)⟩⟩
   subst c18
   have H1 : (some (0, false)) = some (r1, r2) := by rw [if_pos rfl] at H; exact H
   clear H
   have H := H1
   clear H1
   simp only [Option.some.injEq, Prod.mk.injEq] at H
   obtain ⟨rfl, rfl⟩ := H
   go_wp2
   go_ret2
   exact ⟨by first | rfl | (simp [errW_none, errW_some] <;> rfl) | (simp [*, errW_none, errW_some] <;> rfl), by repeat (first | (with_reducible first | exact HB.out | apply below_alloc | apply pw_below_drewN | apply below_drew1 | refine below_set ?_ GE381.out) | exact HB.out)⟩

end Go.Proofs.Ytjffblojognlbaa.P
