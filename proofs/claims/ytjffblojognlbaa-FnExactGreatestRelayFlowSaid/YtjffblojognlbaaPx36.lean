/- Written by a program of this session (wip/p2) out of the translation: plain Lean functions, and that the calls of the Go functions come to what these say. Conditions: as each contract states. -/
import Derived.Test.YtjffblojognlbaaPx0
import Derived.Test.YtjffblojognlbaaPx2
import Derived.Test.YtjffblojognlbaaPx25
import Derived.Test.YtjffblojognlbaaPx35
namespace Go.Proofs.Ytjffblojognlbaa.P
open Go.RowKit Go.Proofs.YtjffblojognlbaaW.PrintWords Go.Proofs.YtjffblojognlbaaW.PrintLast Go.Proofs.YtjffblojognlbaaW.PrintMore
attribute [local go_sem] max2_int min2_int max_two min_two max_three min_three max_four min_four   -- for this text's walks alone
set_option linter.unusedVariables false
set_option linter.unusedSimpArgs false

/-! ### spec_GreatestRelayFlow: function 31 -/
mutual
def spec_GreatestRelayFlow.j0 : Nat → List (S71) → Int → Bool → Int → Int → Int → Int → Option (Int × Bool)
  | 0, _, _, _, _, _, _, _ => none
  | k + 1, x0, x2, x21, x356000, x356001, x356002, x356003 => if x21 = true then (some (0, false)) else (spec_GreatestRelayFlow.l0 k x0 x2 0 3001 x356000 x356001 x356002 x356003)
def spec_GreatestRelayFlow.l0 : Nat → List (S71) → Int → Int → Int → Int → Int → Int → Int → Option (Int × Bool)
  | 0, _, _, _, _, _, _, _, _ => none
  | k + 1, x0, x2, x8, x9, x356000, x356001, x356002, x356003 => if (wrap64 (x9 - x8)) > 1 then ((spec_ryPumps.f k x0 x356000 (wrap64 (Int.tdiv (wrap64 (x8 + x9)) 2)) x356002 x356003).bind fun bt358 => (if bt358.2 = true then (if (bt358.1.length : Int) ≤ x2 then (spec_GreatestRelayFlow.l0 k x0 x2 (wrap64 (Int.tdiv (wrap64 (x8 + x9)) 2)) x9 x356000 (wrap64 (Int.tdiv (wrap64 (x8 + x9)) 2)) x356002 x356003) else (spec_GreatestRelayFlow.l0 k x0 x2 x8 (wrap64 (Int.tdiv (wrap64 (x8 + x9)) 2)) x356000 (wrap64 (Int.tdiv (wrap64 (x8 + x9)) 2)) x356002 x356003)) else (spec_GreatestRelayFlow.l0 k x0 x2 x8 (wrap64 (Int.tdiv (wrap64 (x8 + x9)) 2)) x356000 (wrap64 (Int.tdiv (wrap64 (x8 + x9)) 2)) x356002 x356003))) else (some (x8, decide (x8 > 0)))
end
def spec_GreatestRelayFlow.f (k : Nat) (l0 : List (S71)) (a1_0 : Int) (a1_1 : Int) (a1_2 : Int) (a1_3 : Int) (a2 : Int) : Option (Int × Bool) := (spec_ryAsked.f k l0 a1_0 a1_1 a1_2 a1_3).bind fun t356 => (if t356 = true then ((spec_l1In.f a2 1 40).bind fun t357 => (spec_GreatestRelayFlow.j0 k l0 a2 (!t357) a1_0 a1_1 a1_2 a1_3)) else (spec_GreatestRelayFlow.j0 k l0 a2 true a1_0 a1_1 a1_2 a1_3))
theorem spec_GreatestRelayFlow.mono_l : ∀ k, (∀ y0 y1 y2 y3 y4 y5 y6, LeO (spec_GreatestRelayFlow.j0 k y0 y1 y2 y3 y4 y5 y6) (spec_GreatestRelayFlow.j0 (k + 1) y0 y1 y2 y3 y4 y5 y6)) ∧ (∀ y0 y1 y2 y3 y4 y5 y6 y7, LeO (spec_GreatestRelayFlow.l0 k y0 y1 y2 y3 y4 y5 y6 y7) (spec_GreatestRelayFlow.l0 (k + 1) y0 y1 y2 y3 y4 y5 y6 y7))
 | 0 => ⟨fun _ _ _ _ _ _ _ r h => by simp [spec_GreatestRelayFlow.j0] at h, fun _ _ _ _ _ _ _ _ r h => by simp [spec_GreatestRelayFlow.l0] at h⟩
 | k + 1 => by
  obtain ⟨ih0, ih1⟩ := spec_GreatestRelayFlow.mono_l k
  refine ⟨?_, ?_⟩
  · intro y0 y1 y2 y3 y4 y5 y6
    unfold spec_GreatestRelayFlow.j0
    repeat' first
    | (with_reducible exact ih0 _ _ _ _ _ _ _)
    | (with_reducible exact ih1 _ _ _ _ _ _ _ _)
    | (with_reducible exact spec_ryAsked.mono _ _ _ _ _ _)
    | (with_reducible exact spec_ryPumps.mono _ _ _ _ _ _)
    | (with_reducible exact LeO.refl _)
    | (with_reducible exact LeO.none _)
    | (with_reducible refine LeO.ite ?_ ?_)
    | (with_reducible refine LeO.bind ?_ (fun _ => ?_))
    | exact ih0 _ _ _ _ _ _ _
    | exact ih1 _ _ _ _ _ _ _ _
    | exact spec_ryAsked.mono _ _ _ _ _ _
    | exact spec_ryPumps.mono _ _ _ _ _ _
    | exact LeO.none _
    | refine LeO.ite ?_ ?_
    | refine LeO.bind ?_ (fun _ => ?_)
  · intro y0 y1 y2 y3 y4 y5 y6 y7
    unfold spec_GreatestRelayFlow.l0
    repeat' first
    | (with_reducible exact ih0 _ _ _ _ _ _ _)
    | (with_reducible exact ih1 _ _ _ _ _ _ _ _)
    | (with_reducible exact spec_ryAsked.mono _ _ _ _ _ _)
    | (with_reducible exact spec_ryPumps.mono _ _ _ _ _ _)
    | (with_reducible exact LeO.refl _)
    | (with_reducible exact LeO.none _)
    | (with_reducible refine LeO.ite ?_ ?_)
    | (with_reducible refine LeO.bind ?_ (fun _ => ?_))
    | exact ih0 _ _ _ _ _ _ _
    | exact ih1 _ _ _ _ _ _ _ _
    | exact spec_ryAsked.mono _ _ _ _ _ _
    | exact spec_ryPumps.mono _ _ _ _ _ _
    | exact LeO.none _
    | refine LeO.ite ?_ ?_
    | refine LeO.bind ?_ (fun _ => ?_)
theorem spec_GreatestRelayFlow.mono : ∀ a0 a1 a2 a3 a4 a5 k, LeO (spec_GreatestRelayFlow.f k a0 a1 a2 a3 a4 a5) (spec_GreatestRelayFlow.f (k + 1) a0 a1 a2 a3 a4 a5) := by
 intro a0 a1 a2 a3 a4 a5 k
 obtain ⟨ih0, ih1⟩ := spec_GreatestRelayFlow.mono_l k
 unfold spec_GreatestRelayFlow.f
 repeat' first
  | (with_reducible exact ih0 _ _ _ _ _ _ _)
  | (with_reducible exact ih1 _ _ _ _ _ _ _ _)
  | (with_reducible exact spec_ryAsked.mono _ _ _ _ _ _)
  | (with_reducible exact spec_ryPumps.mono _ _ _ _ _ _)
  | (with_reducible exact LeO.refl _)
  | (with_reducible exact LeO.none _)
  | (with_reducible refine LeO.ite ?_ ?_)
  | (with_reducible refine LeO.bind ?_ (fun _ => ?_))
  | exact ih0 _ _ _ _ _ _ _
  | exact ih1 _ _ _ _ _ _ _ _
  | exact spec_ryAsked.mono _ _ _ _ _ _
  | exact spec_ryPumps.mono _ _ _ _ _ _
  | exact LeO.none _
  | refine LeO.ite ?_ ?_
  | refine LeO.bind ?_ (fun _ => ?_)
set_option maxHeartbeats 8000000 in
set_option maxRecDepth 100000 in
theorem spec_GreatestRelayFlow.calls (k : Nat) (A0 : Option Addr) (c0 : Nat) (l0 : List (S71)) (a1_0 : Int) (a1_1 : Int) (a1_2 : Int) (a1_3 : Int) (a2 : Int) (r1 : Int) (r2 : Bool) (w : World) (hr0 : Kd.C k71 w A0 l0.length l0) (hc0 : l0.length ≤ c0) (h : spec_GreatestRelayFlow.f k l0 a1_0 a1_1 a1_2 a1_3 a2 = some (r1, r2)) :
  Calls Try.prog 31 #[.slice A0 l0.length c0, .agg #[.int .i64 a1_0, .int .i64 a1_1, .int .i64 a1_2, .int .i64 a1_3], .int .i64 a2] w fun e w' => e = .returned (.tuple #[.int .i64 r1, .bool r2]) ∧ Below w.heap.size w w' := by
 have hu25 := Try.underlying25
 have HR0 := Aside0.mk hr0
 have HC0 := Aside0.mk hc0
 clear hr0 hc0
 have HB := Aside0.mk (Below.refl w.heap.size w)
 have H : ((spec_ryAsked.f k l0 a1_0 a1_1 a1_2 a1_3).bind fun t356 => (if t356 = true then ((spec_l1In.f a2 1 40).bind fun t357 => (spec_GreatestRelayFlow.j0 k l0 a2 (!t357) a1_0 a1_1 a1_2 a1_3)) else (spec_GreatestRelayFlow.j0 k l0 a2 true a1_0 a1_1 a1_2 a1_3))) = some (r1, r2) := h
 clear h
 have HC4 := Aside0.mk H
 clear H
 go_enter Try.func31, Try.ntmps31
 go_upto_region 1 with (first | ((with_reducible refine gate_dst (N := 4) rfl ?_); (try (refine gate_guard (by rfl) ?_; dsimp only)); refine box_event ?hg (N := 4) ?hd (cs := #[.int .i64 a1_0, .int .i64 a1_1, .int .i64 a1_2, .int .i64 a1_3]) (t := 25) ?hr ?_; (case hd => rfl); (case hg => rfl); (case hr => first | (go_simp; done) | (go_simp; rfl)); intro gb355 hg w5 hbox hb; have n0_ := Aside0.mk (below_step (by repeat (first | (with_reducible first | exact HB.out | apply below_alloc | apply pw_below_drewN | apply below_drew1) | exact HB.out)) hb); have n1_ := Aside0.mk (hbox); have n2_ := Aside0.mk ((by rw [hg]; exact (below_size (by repeat (first | (with_reducible first | exact HB.out | apply below_alloc | apply pw_below_drewN | apply below_drew1) | exact HB.out))) : w.heap.size ≤ gb355)); have n3_ := Aside0.mk ((by rw [hg]; exact (below_size (by repeat (first | (with_reducible first | exact HB.out | apply below_alloc | apply pw_below_drewN | apply below_drew1) | exact HB.out))) : w.heap.size ≤ gb355)); clear HB; have HB := n0_; have BK355 := n1_; have GW355 := n2_; have GE355 := n3_; clear n0_ n1_ n2_ n3_; clear hb hbox hg))
 (try simp only [Act.put, List.setIfInBounds_toArray, List.set_cons_zero, List.set_cons_succ])
 go_cut [21] (fun v21 wc => ∃ (kq : Nat) (x21_3 : Bool), v21 = .bool x21_3 ∧ Aside0 (spec_GreatestRelayFlow.j0 kq l0 a2 x21_3 a1_0 a1_1 a1_2 a1_3 = some (r1, r2)) ∧ Aside0 (kq ≤ k) ∧ Aside0 (wc.heap[gb355]? = some (.cells #[.int .i64 a1_0, .int .i64 a1_1, .int .i64 a1_2, .int .i64 a1_3] 25 (0, 0))) ∧ Aside0 (Below w.heap.size w wc))
 case first =>
  have H := HC4.out
  clear HC4
  replace H := Option.bind_eq_some_iff.mp H
  obtain ⟨t356, A60, H⟩ := H
  replace H : (if t356 = true then ((spec_l1In.f a2 1 40).bind fun t357 => (spec_GreatestRelayFlow.j0 k l0 a2 (!t357) a1_0 a1_1 a1_2 a1_3)) else (spec_GreatestRelayFlow.j0 k l0 a2 true a1_0 a1_1 a1_2 a1_3)) = some (r1, r2) := H
  have A6 := Aside0.mk A60
  clear A60
  by_cases c7 : t356 = true
  case neg =>
   replace c7 := Bool.eq_false_iff.mpr c7
   subst c7
   have H1 : (spec_GreatestRelayFlow.j0 k l0 a2 true a1_0 a1_1 a1_2 a1_3) = some (r1, r2) := by rw [if_neg (show ¬ (false = true) by decide)] at H; exact H
   clear H
   have H := H1
   clear H1
   have H' := Aside0.mk H
   clear H
   have hcz11_0 : w5.cell? ⟨gb355, 0, none⟩ = some (.int .i64 a1_0) := (blk_cell BK355.out 0).trans rfl
   have hcz11_1 : w5.cell? ⟨gb355, 1, none⟩ = some (.int .i64 a1_1) := (blk_cell BK355.out 1).trans rfl
   have hcz11_2 : w5.cell? ⟨gb355, 2, none⟩ = some (.int .i64 a1_2) := (blk_cell BK355.out 2).trans rfl
   have hcz11_3 : w5.cell? ⟨gb355, 3, none⟩ = some (.int .i64 a1_3) := (blk_cell BK355.out 3).trans rfl
   have hfz11_0 := blk_frozen BK355.out 0
   have hfz11_1 := blk_frozen BK355.out 1
   have hfz11_2 := blk_frozen BK355.out 2
   have hfz11_3 := blk_frozen BK355.out 3
   go_wp2_with (first | ((with_reducible refine gate_callee (f := 65) rfl ?_); refine goesL_ (some 15) rfl rfl Try.func65 (by kernel_rfl) rfl #[.slice A0 l0.length c0, .agg #[.int .i64 a1_0, .int .i64 a1_1, .int .i64 a1_2, .int .i64 a1_3]] rfl (by (try simp only [List.map_toArray, List.map_cons, List.map_nil]); first | done | rfl | (simp only [List.length_drop, List.length_take]; rfl)) ?_; (with_reducible refine (spec_ryAsked.calls k _ _ l0 a1_0 a1_1 a1_2 a1_3 false _ ?side1 ?side2 A6.out).mono ?_); (case side1 => repeat (first | exact (Kd.C_below HR0.out HB.out) | (with_reducible refine Kd.C_alloc ?_ _) | (with_reducible refine Kd.C_drewN ?_ _) | (with_reducible refine Kd.C_drew ?_))); (case side2 => exact HC0.out); rintro e w12 ⟨rfl, hb⟩; refine ⟨_, rfl, ?_⟩; have n0_ := Aside0.mk (blk_below (g := gb355) (o := .cells #[.int .i64 a1_0, .int .i64 a1_1, .int .i64 a1_2, .int .i64 a1_3] 25 (0, 0)) (by (with_reducible repeat (first | refine blk_drewN ?_ _ | refine blk_drew ?_ | refine blk_alloc ?_ _)); exact BK355.out) hb); have n1_ := Aside0.mk (below_step (by repeat (first | (with_reducible first | exact HB.out | apply below_alloc | apply pw_below_drewN | apply below_drew1 | refine below_set ?_ GE355.out) | exact HB.out)) hb); clear BK355; clear HB; have BK355 := n0_; have HB := n1_; clear n0_ n1_; (try clear hb); (try clear hb2); (try clear hk); (try clear hi)))
   go_meet
   case rel => exact ⟨_, (true), (by first | rfl | (simp; done) | (simp [*]; done)), H', ⟨by first | omega | exact Nat.le_refl _⟩, ⟨by (with_reducible repeat (first | refine blk_drewN ?_ _ | refine blk_drew ?_ | refine blk_alloc ?_ _)); exact BK355.out⟩, ⟨by repeat (first | (with_reducible first | exact HB.out | apply below_alloc | apply pw_below_drewN | apply below_drew1 | refine below_set ?_ GE355.out) | exact HB.out)⟩⟩
  subst c7
  have H1 : ((spec_l1In.f a2 1 40).bind fun t357 => (spec_GreatestRelayFlow.j0 k l0 a2 (!t357) a1_0 a1_1 a1_2 a1_3)) = some (r1, r2) := by rw [if_pos rfl] at H; exact H
  clear H
  have H := H1
  clear H1
  replace H := Option.bind_eq_some_iff.mp H
  obtain ⟨t357, A80, H⟩ := H
  replace H : (spec_GreatestRelayFlow.j0 k l0 a2 (!t357) a1_0 a1_1 a1_2 a1_3) = some (r1, r2) := H
  have A8 := Aside0.mk A80
  clear A80
  have H' := Aside0.mk H
  clear H
  have hcz9_0 : w5.cell? ⟨gb355, 0, none⟩ = some (.int .i64 a1_0) := (blk_cell BK355.out 0).trans rfl
  have hcz9_1 : w5.cell? ⟨gb355, 1, none⟩ = some (.int .i64 a1_1) := (blk_cell BK355.out 1).trans rfl
  have hcz9_2 : w5.cell? ⟨gb355, 2, none⟩ = some (.int .i64 a1_2) := (blk_cell BK355.out 2).trans rfl
  have hcz9_3 : w5.cell? ⟨gb355, 3, none⟩ = some (.int .i64 a1_3) := (blk_cell BK355.out 3).trans rfl
  have hfz9_0 := blk_frozen BK355.out 0
  have hfz9_1 := blk_frozen BK355.out 1
  have hfz9_2 := blk_frozen BK355.out 2
  have hfz9_3 := blk_frozen BK355.out 3
  go_wp2_with (first | ((with_reducible refine gate_callee (f := 65) rfl ?_); refine goesL_ (some 15) rfl rfl Try.func65 (by kernel_rfl) rfl #[.slice A0 l0.length c0, .agg #[.int .i64 a1_0, .int .i64 a1_1, .int .i64 a1_2, .int .i64 a1_3]] rfl (by (try simp only [List.map_toArray, List.map_cons, List.map_nil]); first | done | rfl | (simp only [List.length_drop, List.length_take]; rfl)) ?_; (with_reducible refine (spec_ryAsked.calls k _ _ l0 a1_0 a1_1 a1_2 a1_3 true _ ?side1 ?side2 A6.out).mono ?_); (case side1 => repeat (first | exact (Kd.C_below HR0.out HB.out) | (with_reducible refine Kd.C_alloc ?_ _) | (with_reducible refine Kd.C_drewN ?_ _) | (with_reducible refine Kd.C_drew ?_))); (case side2 => exact HC0.out); rintro e w10 ⟨rfl, hb⟩; refine ⟨_, rfl, ?_⟩; have n0_ := Aside0.mk (blk_below (g := gb355) (o := .cells #[.int .i64 a1_0, .int .i64 a1_1, .int .i64 a1_2, .int .i64 a1_3] 25 (0, 0)) (by (with_reducible repeat (first | refine blk_drewN ?_ _ | refine blk_drew ?_ | refine blk_alloc ?_ _)); exact BK355.out) hb); have n1_ := Aside0.mk (below_step (by repeat (first | (with_reducible first | exact HB.out | apply below_alloc | apply pw_below_drewN | apply below_drew1 | refine below_set ?_ GE355.out) | exact HB.out)) hb); clear BK355; clear HB; have BK355 := n0_; have HB := n1_; clear n0_ n1_; (try clear hb); (try clear hb2); (try clear hk); (try clear hi)) | (go_at_call 57; (with_reducible refine (spec_l1In.calls a2 1 40 t357 _ A8.out).mono ?_); rintro e w' ⟨rfl, ⟨nd, rfl⟩⟩))
  go_meet
  case rel => exact ⟨_, (!t357), (by first | rfl | (simp; done) | (simp [*]; done)), H', ⟨by first | omega | exact Nat.le_refl _⟩, ⟨by (with_reducible repeat (first | refine blk_drewN ?_ _ | refine blk_drew ?_ | refine blk_alloc ?_ _)); exact BK355.out⟩, ⟨by repeat (first | (with_reducible first | exact HB.out | apply below_alloc | apply pw_below_drewN | apply below_drew1 | refine below_set ?_ GE355.out) | exact HB.out)⟩⟩
 case rest =>
  clear HC4
  try clear p2
  try clear c3
  try clear c6
  try clear c7
  try clear hcz11_0
  try clear hcz11_1
  try clear hcz11_2
  try clear hcz11_3
  try clear hcz9_0
  try clear hcz9_1
  try clear hcz9_2
  try clear hcz9_3
  try clear hfz11_0
  try clear hfz11_1
  try clear hfz11_2
  try clear hfz11_3
  try clear hfz9_0
  try clear hfz9_1
  try clear hfz9_2
  try clear hfz9_3
  obtain ⟨kq, x21_3, rfl, HA, HJ3, BK355, HB⟩ := hcut
  cases kq with
  | zero => exact absurd HA.out (by simp [spec_GreatestRelayFlow.j0])
  | succ kj3 =>
   have H := HA.out
   clear HA
   simp only [spec_GreatestRelayFlow.j0] at H
   by_cases c13 : x21_3 = true
   case neg =>
    replace c13 := Bool.eq_false_iff.mpr c13
    subst c13
    have H1 : (spec_GreatestRelayFlow.l0 kj3 l0 a2 0 3001 a1_0 a1_1 a1_2 a1_3) = some (r1, r2) := by rw [if_neg (show ¬ (false = true) by decide)] at H; exact H
    clear H
    have H := H1
    clear H1
    have H' := Aside0.mk H
    clear H
    go_wp2
    go_loopg [8, 9] kj3 (fun kq v8 v9 w' => ∃ (x8_2 : Int) (x9_2 : Int) (x356001_2 : Int), v8 = .int .i64 x8_2 ∧ v9 = .int .i64 x9_2 ∧ Aside0 (spec_GreatestRelayFlow.l0 kq l0 a2 x8_2 x9_2 a1_0 x356001_2 a1_2 a1_3 = some (r1, r2)) ∧ Aside0 (kq ≤ kj3) ∧ Aside0 (w'.heap[gb355]? = some (.cells #[.int .i64 a1_0, .int .i64 x356001_2, .int .i64 a1_2, .int .i64 a1_3] 25 (0, 0))) ∧ Aside0 (Below w.heap.size w w'))
    case atStart => exact ⟨(0), (3001), (a1_1), (by first | rfl | (simp; done) | (simp [*]; done)), (by first | rfl | (simp; done) | (simp [*]; done)), H', ⟨Nat.le_refl _⟩, ⟨by (with_reducible repeat (first | refine blk_drewN ?_ _ | refine blk_drew ?_ | refine blk_alloc ?_ _)); exact BK355.out⟩, ⟨by repeat (first | (with_reducible first | exact HB.out | apply below_alloc | apply pw_below_drewN | apply below_drew1 | refine below_set ?_ GE355.out) | exact HB.out)⟩⟩
    case round =>
     clear H'
     try clear c1
     try clear p2
     try clear c3
     try clear c6
     try clear c7
     try clear c13
     try clear hcz11_0
     try clear hcz11_1
     try clear hcz11_2
     try clear hcz11_3
     try clear hcz9_0
     try clear hcz9_1
     try clear hcz9_2
     try clear hcz9_3
     try clear hfz11_0
     try clear hfz11_1
     try clear hfz11_2
     try clear hfz11_3
     try clear hfz9_0
     try clear hfz9_1
     try clear hfz9_2
     try clear hfz9_3
     try clear p2
     obtain ⟨x8_2, x9_2, x356001_2, rfl, rfl, HA, HK2, BK355, HB⟩ := hrel
     cases gk with
     | zero => exact absurd HA.out (by simp [spec_GreatestRelayFlow.l0])
     | succ k2 =>
      have H := HA.out
      clear HA
      simp only [spec_GreatestRelayFlow.l0] at H
      by_cases c14 : (wrap64 (x9_2 - x8_2)) > 1
      case neg =>
       rw [if_neg c14] at H
       have c14b0 : decide (1 < (wrap64 (x9_2 - x8_2))) = false := decide_eq_false c14
       clear c14
       simp only [Option.some.injEq, Prod.mk.injEq] at H
       obtain ⟨rfl, rfl⟩ := H
       go_wp2
       go_ret2
       exact ⟨by first | rfl | (simp [errW_none, errW_some] <;> rfl) | (simp [*, errW_none, errW_some] <;> rfl), by repeat (first | (with_reducible first | exact HB.out | apply below_alloc | apply pw_below_drewN | apply below_drew1 | refine below_set ?_ GE355.out) | exact HB.out)⟩
      rw [if_pos c14] at H
      have c14b0 : decide (1 < (wrap64 (x9_2 - x8_2))) = true := decide_eq_true c14
      clear c14
      replace H := Option.bind_eq_some_iff.mp H
      obtain ⟨⟨t358, t361⟩, A150, H⟩ := H
      replace H : (if t361 = true then (if (t358.length : Int) ≤ a2 then (spec_GreatestRelayFlow.l0 k2 l0 a2 (wrap64 (Int.tdiv (wrap64 (x8_2 + x9_2)) 2)) x9_2 a1_0 (wrap64 (Int.tdiv (wrap64 (x8_2 + x9_2)) 2)) a1_2 a1_3) else (spec_GreatestRelayFlow.l0 k2 l0 a2 x8_2 (wrap64 (Int.tdiv (wrap64 (x8_2 + x9_2)) 2)) a1_0 (wrap64 (Int.tdiv (wrap64 (x8_2 + x9_2)) 2)) a1_2 a1_3)) else (spec_GreatestRelayFlow.l0 k2 l0 a2 x8_2 (wrap64 (Int.tdiv (wrap64 (x8_2 + x9_2)) 2)) a1_0 (wrap64 (Int.tdiv (wrap64 (x8_2 + x9_2)) 2)) a1_2 a1_3)) = some (r1, r2) := H
      have A15 := Aside0.mk A150
      clear A150
      by_cases c16 : t361 = true
      case neg =>
       replace c16 := Bool.eq_false_iff.mpr c16
       subst c16
       have H1 : (spec_GreatestRelayFlow.l0 k2 l0 a2 x8_2 (wrap64 (Int.tdiv (wrap64 (x8_2 + x9_2)) 2)) a1_0 (wrap64 (Int.tdiv (wrap64 (x8_2 + x9_2)) 2)) a1_2 a1_3) = some (r1, r2) := by rw [if_neg (show ¬ (false = true) by decide)] at H; exact H
       clear H
       have H := H1
       clear H1
       have H' := Aside0.mk H
       clear H
       have hcz24_0 : wr.cell? ⟨gb355, 0, none⟩ = some (.int .i64 a1_0) := (blk_cell BK355.out 0).trans rfl
       have hcz24_1 : wr.cell? ⟨gb355, 1, none⟩ = some (.int .i64 x356001_2) := (blk_cell BK355.out 1).trans rfl
       have hcz24_2 : wr.cell? ⟨gb355, 2, none⟩ = some (.int .i64 a1_2) := (blk_cell BK355.out 2).trans rfl
       have hcz24_3 : wr.cell? ⟨gb355, 3, none⟩ = some (.int .i64 a1_3) := (blk_cell BK355.out 3).trans rfl
       have hfz24_0 := blk_frozen BK355.out 0
       have hfz24_1 := blk_frozen BK355.out 1
       have hfz24_2 := blk_frozen BK355.out 2
       have hfz24_3 := blk_frozen BK355.out 3
       go_wp2_with (first | ((with_reducible refine gate_callee (f := 68) rfl ?_); refine goesL_ (some 35) rfl rfl Try.func68 (by kernel_rfl) rfl #[.slice A0 l0.length c0, .agg #[.int .i64 a1_0, .int .i64 (wrap64 (Int.tdiv (wrap64 (x8_2 + x9_2)) 2)), .int .i64 a1_2, .int .i64 a1_3]] rfl (by (try simp only [List.map_toArray, List.map_cons, List.map_nil]); first | done | rfl | (simp only [List.length_drop, List.length_take]; rfl)) ?_; (with_reducible refine (spec_ryPumps.calls k2 _ _ l0 a1_0 (wrap64 (Int.tdiv (wrap64 (x8_2 + x9_2)) 2)) a1_2 a1_3 t358 false _ ?side1 ?side2 A15.out).mono ?_); (case side1 => exact Kd.C_below HR0.out (by repeat (first | (with_reducible first | exact HB.out | apply below_alloc | apply pw_below_drewN | apply below_drew1 | refine below_set ?_ GE355.out) | exact HB.out))); (case side2 => exact HC0.out); rintro e w25 ⟨v359, rfl, ho0, hb⟩; refine ⟨_, rfl, ?_⟩; have n0_ := Aside0.mk (Kd.R_lower ho0 (below_size (by repeat (first | (with_reducible first | exact HB.out | apply below_alloc | apply pw_below_drewN | apply below_drew1 | refine below_set ?_ GE355.out) | exact HB.out)))); have n1_ := Aside0.mk (blk_below (g := gb355) (o := .cells #[.int .i64 a1_0, .int .i64 (wrap64 (Int.tdiv (wrap64 (x8_2 + x9_2)) 2)), .int .i64 a1_2, .int .i64 a1_3] 25 (0, 0)) (by (with_reducible repeat (first | refine blk_drewN ?_ _ | refine blk_drew ?_ | refine blk_alloc ?_ _)); refine blk_put (cs := #[.int .i64 a1_0, .int .i64 x356001_2, .int .i64 a1_2, .int .i64 a1_3]) ?_ 1 _ rfl; (with_reducible repeat (first | refine blk_drewN ?_ _ | refine blk_drew ?_ | refine blk_alloc ?_ _)); exact BK355.out) hb); have n2_ := Aside0.mk (below_step (by repeat (first | (with_reducible first | exact HB.out | apply below_alloc | apply pw_below_drewN | apply below_drew1 | refine below_set ?_ GE355.out) | exact HB.out)) hb); clear BK355; clear HB; have HO360 := n0_; have BK355 := n1_; have HB := n2_; clear n0_ n1_ n2_; (try clear hb); (try clear hb2); (try clear hk); (try clear hi); (try clear ho0)))
       go_roundg k2
       case measure => have := HJ3.out; have := HK2.out; omega
       case rel => exact ⟨(x8_2), (wrap64 (Int.tdiv (wrap64 (x8_2 + x9_2)) 2)), (wrap64 (Int.tdiv (wrap64 (x8_2 + x9_2)) 2)), (by first | rfl | (simp; done) | (simp [*]; done)), (by first | rfl | (simp; done) | (simp [*]; done)), H', ⟨by have := HJ3.out; have := HK2.out; omega⟩, ⟨by (with_reducible repeat (first | refine blk_drewN ?_ _ | refine blk_drew ?_ | refine blk_alloc ?_ _)); exact BK355.out⟩, ⟨by repeat (first | (with_reducible first | exact HB.out | apply below_alloc | apply pw_below_drewN | apply below_drew1 | refine below_set ?_ GE355.out) | exact HB.out)⟩⟩
      subst c16
      have H1 : (if (t358.length : Int) ≤ a2 then (spec_GreatestRelayFlow.l0 k2 l0 a2 (wrap64 (Int.tdiv (wrap64 (x8_2 + x9_2)) 2)) x9_2 a1_0 (wrap64 (Int.tdiv (wrap64 (x8_2 + x9_2)) 2)) a1_2 a1_3) else (spec_GreatestRelayFlow.l0 k2 l0 a2 x8_2 (wrap64 (Int.tdiv (wrap64 (x8_2 + x9_2)) 2)) a1_0 (wrap64 (Int.tdiv (wrap64 (x8_2 + x9_2)) 2)) a1_2 a1_3)) = some (r1, r2) := by rw [if_pos rfl] at H; exact H
      clear H
      have H := H1
      clear H1
      by_cases c17 : (t358.length : Int) ≤ a2
      case neg =>
       rw [if_neg c17] at H
       have c17b0 : decide ((t358.length : Int) ≤ a2) = false := decide_eq_false c17
       clear c17
       have H' := Aside0.mk H
       clear H
       have hcz21_0 : wr.cell? ⟨gb355, 0, none⟩ = some (.int .i64 a1_0) := (blk_cell BK355.out 0).trans rfl
       have hcz21_1 : wr.cell? ⟨gb355, 1, none⟩ = some (.int .i64 x356001_2) := (blk_cell BK355.out 1).trans rfl
       have hcz21_2 : wr.cell? ⟨gb355, 2, none⟩ = some (.int .i64 a1_2) := (blk_cell BK355.out 2).trans rfl
       have hcz21_3 : wr.cell? ⟨gb355, 3, none⟩ = some (.int .i64 a1_3) := (blk_cell BK355.out 3).trans rfl
       have hfz21_0 := blk_frozen BK355.out 0
       have hfz21_1 := blk_frozen BK355.out 1
       have hfz21_2 := blk_frozen BK355.out 2
       have hfz21_3 := blk_frozen BK355.out 3
       go_wp2_with (first | ((with_reducible refine gate_callee (f := 68) rfl ?_); refine goesL_ (some 35) rfl rfl Try.func68 (by kernel_rfl) rfl #[.slice A0 l0.length c0, .agg #[.int .i64 a1_0, .int .i64 (wrap64 (Int.tdiv (wrap64 (x8_2 + x9_2)) 2)), .int .i64 a1_2, .int .i64 a1_3]] rfl (by (try simp only [List.map_toArray, List.map_cons, List.map_nil]); first | done | rfl | (simp only [List.length_drop, List.length_take]; rfl)) ?_; (with_reducible refine (spec_ryPumps.calls k2 _ _ l0 a1_0 (wrap64 (Int.tdiv (wrap64 (x8_2 + x9_2)) 2)) a1_2 a1_3 t358 true _ ?side1 ?side2 A15.out).mono ?_); (case side1 => exact Kd.C_below HR0.out (by repeat (first | (with_reducible first | exact HB.out | apply below_alloc | apply pw_below_drewN | apply below_drew1 | refine below_set ?_ GE355.out) | exact HB.out))); (case side2 => exact HC0.out); rintro e w22 ⟨v359, rfl, ho0, hb⟩; refine ⟨_, rfl, ?_⟩; have n0_ := Aside0.mk (Kd.R_lower ho0 (below_size (by repeat (first | (with_reducible first | exact HB.out | apply below_alloc | apply pw_below_drewN | apply below_drew1 | refine below_set ?_ GE355.out) | exact HB.out)))); have n1_ := Aside0.mk (blk_below (g := gb355) (o := .cells #[.int .i64 a1_0, .int .i64 (wrap64 (Int.tdiv (wrap64 (x8_2 + x9_2)) 2)), .int .i64 a1_2, .int .i64 a1_3] 25 (0, 0)) (by (with_reducible repeat (first | refine blk_drewN ?_ _ | refine blk_drew ?_ | refine blk_alloc ?_ _)); refine blk_put (cs := #[.int .i64 a1_0, .int .i64 x356001_2, .int .i64 a1_2, .int .i64 a1_3]) ?_ 1 _ rfl; (with_reducible repeat (first | refine blk_drewN ?_ _ | refine blk_drew ?_ | refine blk_alloc ?_ _)); exact BK355.out) hb); have n2_ := Aside0.mk (below_step (by repeat (first | (with_reducible first | exact HB.out | apply below_alloc | apply pw_below_drewN | apply below_drew1 | refine below_set ?_ GE355.out) | exact HB.out)) hb); clear BK355; clear HB; have HO360 := n0_; have BK355 := n1_; have HB := n2_; clear n0_ n1_ n2_; (try clear hb); (try clear hb2); (try clear hk); (try clear hi); (try clear ho0); obtain ⟨Ao23, co23, eo23⟩ := Kd.R_slice HO360.out; subst eo23))
       go_roundg k2
       case measure => have := HJ3.out; have := HK2.out; omega
       case rel => exact ⟨(x8_2), (wrap64 (Int.tdiv (wrap64 (x8_2 + x9_2)) 2)), (wrap64 (Int.tdiv (wrap64 (x8_2 + x9_2)) 2)), (by first | rfl | (simp; done) | (simp [*]; done)), (by first | rfl | (simp; done) | (simp [*]; done)), H', ⟨by have := HJ3.out; have := HK2.out; omega⟩, ⟨by (with_reducible repeat (first | refine blk_drewN ?_ _ | refine blk_drew ?_ | refine blk_alloc ?_ _)); exact BK355.out⟩, ⟨by repeat (first | (with_reducible first | exact HB.out | apply below_alloc | apply pw_below_drewN | apply below_drew1 | refine below_set ?_ GE355.out) | exact HB.out)⟩⟩
      rw [if_pos c17] at H
      have c17b0 : decide ((t358.length : Int) ≤ a2) = true := decide_eq_true c17
      clear c17
      have H' := Aside0.mk H
      clear H
      have hcz18_0 : wr.cell? ⟨gb355, 0, none⟩ = some (.int .i64 a1_0) := (blk_cell BK355.out 0).trans rfl
      have hcz18_1 : wr.cell? ⟨gb355, 1, none⟩ = some (.int .i64 x356001_2) := (blk_cell BK355.out 1).trans rfl
      have hcz18_2 : wr.cell? ⟨gb355, 2, none⟩ = some (.int .i64 a1_2) := (blk_cell BK355.out 2).trans rfl
      have hcz18_3 : wr.cell? ⟨gb355, 3, none⟩ = some (.int .i64 a1_3) := (blk_cell BK355.out 3).trans rfl
      have hfz18_0 := blk_frozen BK355.out 0
      have hfz18_1 := blk_frozen BK355.out 1
      have hfz18_2 := blk_frozen BK355.out 2
      have hfz18_3 := blk_frozen BK355.out 3
      go_wp2_with (first | ((with_reducible refine gate_callee (f := 68) rfl ?_); refine goesL_ (some 35) rfl rfl Try.func68 (by kernel_rfl) rfl #[.slice A0 l0.length c0, .agg #[.int .i64 a1_0, .int .i64 (wrap64 (Int.tdiv (wrap64 (x8_2 + x9_2)) 2)), .int .i64 a1_2, .int .i64 a1_3]] rfl (by (try simp only [List.map_toArray, List.map_cons, List.map_nil]); first | done | rfl | (simp only [List.length_drop, List.length_take]; rfl)) ?_; (with_reducible refine (spec_ryPumps.calls k2 _ _ l0 a1_0 (wrap64 (Int.tdiv (wrap64 (x8_2 + x9_2)) 2)) a1_2 a1_3 t358 true _ ?side1 ?side2 A15.out).mono ?_); (case side1 => exact Kd.C_below HR0.out (by repeat (first | (with_reducible first | exact HB.out | apply below_alloc | apply pw_below_drewN | apply below_drew1 | refine below_set ?_ GE355.out) | exact HB.out))); (case side2 => exact HC0.out); rintro e w19 ⟨v359, rfl, ho0, hb⟩; refine ⟨_, rfl, ?_⟩; have n0_ := Aside0.mk (Kd.R_lower ho0 (below_size (by repeat (first | (with_reducible first | exact HB.out | apply below_alloc | apply pw_below_drewN | apply below_drew1 | refine below_set ?_ GE355.out) | exact HB.out)))); have n1_ := Aside0.mk (blk_below (g := gb355) (o := .cells #[.int .i64 a1_0, .int .i64 (wrap64 (Int.tdiv (wrap64 (x8_2 + x9_2)) 2)), .int .i64 a1_2, .int .i64 a1_3] 25 (0, 0)) (by (with_reducible repeat (first | refine blk_drewN ?_ _ | refine blk_drew ?_ | refine blk_alloc ?_ _)); refine blk_put (cs := #[.int .i64 a1_0, .int .i64 x356001_2, .int .i64 a1_2, .int .i64 a1_3]) ?_ 1 _ rfl; (with_reducible repeat (first | refine blk_drewN ?_ _ | refine blk_drew ?_ | refine blk_alloc ?_ _)); exact BK355.out) hb); have n2_ := Aside0.mk (below_step (by repeat (first | (with_reducible first | exact HB.out | apply below_alloc | apply pw_below_drewN | apply below_drew1 | refine below_set ?_ GE355.out) | exact HB.out)) hb); clear BK355; clear HB; have HO360 := n0_; have BK355 := n1_; have HB := n2_; clear n0_ n1_ n2_; (try clear hb); (try clear hb2); (try clear hk); (try clear hi); (try clear ho0); obtain ⟨Ao20, co20, eo20⟩ := Kd.R_slice HO360.out; subst eo20))
      go_roundg k2
      case measure => have := HJ3.out; have := HK2.out; omega
      case rel => exact ⟨(wrap64 (Int.tdiv (wrap64 (x8_2 + x9_2)) 2)), (x9_2), (wrap64 (Int.tdiv (wrap64 (x8_2 + x9_2)) 2)), (by first | rfl | (simp; done) | (simp [*]; done)), (by first | rfl | (simp; done) | (simp [*]; done)), H', ⟨by have := HJ3.out; have := HK2.out; omega⟩, ⟨by (with_reducible repeat (first | refine blk_drewN ?_ _ | refine blk_drew ?_ | refine blk_alloc ?_ _)); exact BK355.out⟩, ⟨by repeat (first | (with_reducible first | exact HB.out | apply below_alloc | apply pw_below_drewN | apply below_drew1 | refine below_set ?_ GE355.out) | exact HB.out)⟩⟩
   subst c13
   have H1 : (some (0, false)) = some (r1, r2) := by rw [if_pos rfl] at H; exact H
   clear H
   have H := H1
   clear H1
   simp only [Option.some.injEq, Prod.mk.injEq] at H
   obtain ⟨rfl, rfl⟩ := H
   go_wp2
   go_ret2
   exact ⟨by first | rfl | (simp [errW_none, errW_some] <;> rfl) | (simp [*, errW_none, errW_some] <;> rfl), by repeat (first | (with_reducible first | exact HB.out | apply below_alloc | apply pw_below_drewN | apply below_drew1 | refine below_set ?_ GE355.out) | exact HB.out)⟩

end Go.Proofs.Ytjffblojognlbaa.P
